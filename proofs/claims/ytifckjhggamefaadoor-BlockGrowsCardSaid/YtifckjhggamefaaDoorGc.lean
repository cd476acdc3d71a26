/- Rounds of the law BlockGrows. No condition. -/
import Derived.Test.YtifckjhggamefaaDoorAt
import Derived.Test.YtifckjhggamefaaDoorPb
set_option linter.unusedSimpArgs false
set_option linter.unusedVariables false
set_option linter.unusedSectionVars false
namespace Go.Proofs.YtifckjhggamefaaDoor
open Go Go.Vx
set_option maxHeartbeats 8000000
set_option maxRecDepth 10000
section
variable {nr : List (List D)} {N F K L K2 L2 X1 X2 X3 M1 M2 R1 R2 S1 S2 : D} {i : Nat} {k nd a k2 nd2 a2 x y e f g sz dp t1 t2 : Int} {sh : Bool} {xs1 xs2 xs3 : List (List D)}
theorem grows_large (hN : IsS 5 nr N) (hF : F.oneC = true) (hK : K.oneC = true) (hL : L.oneC = true) (hK2 : K2.oneC = true) (hL2 : L2.oneC = true) (hlg : ∀ bx : List Box, ev cfg (.call 5 [.agg [.dat N, .dat F]] bx) = some (.ret (B true) none)) (ha : ∀ b0 b1 b2 : Box, ev cfg (.call 7 [] [b0, b1, b2]) = some (.ret (B true) none)) :
  stepJ (ev cfg) cfg (.call 4 [.agg [.dat N, .dat F], .agg [I k, I nd, I a, .dat K, .dat L], .agg [I k2, I nd2, I a2, .dat K2, .dat L2]] []) = some (.ret (B true) none) := by
 obtain ⟨w1, g1, g2, g3⟩ := hN
 simp (maxSteps := 2000000) only [go_sem, seval, g3, hF, hK, hL, hK2, hL2, hlg, ha]
theorem grows_big1 (hN : IsS 5 nr N) (hF : F.oneC = true) (hK : K.oneC = true) (hL : L.oneC = true) (hK2 : K2.oneC = true) (hL2 : L2.oneC = true) (hlg : ∀ bx : List Box, ev cfg (.call 5 [.agg [.dat N, .dat F]] bx) = some (.ret (B false) none)) (hb1 : ev cfg (.call 6 [.agg [I k, I nd, I a, .dat K, .dat L], .ptr 3 0, I 1] [[.dat N, .dat F], [I k, I nd, I a, .dat K, .dat L], [I k2, I nd2, I a2, .dat K2, .dat L2], [I 200]]) = some (.ret (B true) (some ⟨[[.dat N, .dat F], [I k, I nd, I a, .dat K, .dat L], [I k2, I nd2, I a2, .dat K2, .dat L2], [I x]], 3, false⟩))) (ha : ∀ b0 b1 b2 b3 : Box, ev cfg (.call 7 [] [b0, b1, b2, b3]) = some (.ret (B true) none)) :
  stepJ (ev cfg) cfg (.call 4 [.agg [.dat N, .dat F], .agg [I k, I nd, I a, .dat K, .dat L], .agg [I k2, I nd2, I a2, .dat K2, .dat L2]] []) = some (.ret (B true) none) := by
 obtain ⟨w1, g1, g2, g3⟩ := hN
 simp (maxSteps := 2000000) only [go_sem, seval, g3, hF, hK, hL, hK2, hL2, hlg, ha, hb1]
theorem grows_big2 (hN : IsS 5 nr N) (hF : F.oneC = true) (hK : K.oneC = true) (hL : L.oneC = true) (hK2 : K2.oneC = true) (hL2 : L2.oneC = true) (hlg : ∀ bx : List Box, ev cfg (.call 5 [.agg [.dat N, .dat F]] bx) = some (.ret (B false) none)) (hb1 : ev cfg (.call 6 [.agg [I k, I nd, I a, .dat K, .dat L], .ptr 3 0, I 1] [[.dat N, .dat F], [I k, I nd, I a, .dat K, .dat L], [I k2, I nd2, I a2, .dat K2, .dat L2], [I 200]]) = some (.ret (B false) (some ⟨[[.dat N, .dat F], [I k, I nd, I a, .dat K, .dat L], [I k2, I nd2, I a2, .dat K2, .dat L2], [I x]], 3, false⟩))) (hb2 : ev cfg (.call 6 [.agg [I k2, I nd2, I a2, .dat K2, .dat L2], .ptr 4 0, I 1] [[.dat N, .dat F], [I k, I nd, I a, .dat K, .dat L], [I k2, I nd2, I a2, .dat K2, .dat L2], [I x], [I 200]]) = some (.ret (B true) (some ⟨[[.dat N, .dat F], [I k, I nd, I a, .dat K, .dat L], [I k2, I nd2, I a2, .dat K2, .dat L2], [I x], [I y]], 4, false⟩))) (ha : ∀ b0 b1 b2 b3 b4 : Box, ev cfg (.call 7 [] [b0, b1, b2, b3, b4]) = some (.ret (B true) none)) :
  stepJ (ev cfg) cfg (.call 4 [.agg [.dat N, .dat F], .agg [I k, I nd, I a, .dat K, .dat L], .agg [I k2, I nd2, I a2, .dat K2, .dat L2]] []) = some (.ret (B true) none) := by
 obtain ⟨w1, g1, g2, g3⟩ := hN
 simp (maxSteps := 2000000) only [go_sem, seval, g3, hF, hK, hL, hK2, hL2, hlg, ha, hb1, hb2]
theorem grows_seq (hN : IsS 5 nr N) (hF : F.oneC = true) (hK : K.oneC = true) (hL : L.oneC = true) (hK2 : K2.oneC = true) (hL2 : L2.oneC = true) (hlg : ∀ bx : List Box, ev cfg (.call 5 [.agg [.dat N, .dat F]] bx) = some (.ret (B false) none)) (hb1 : ev cfg (.call 6 [.agg [I k, I nd, I a, .dat K, .dat L], .ptr 3 0, I 1] [[.dat N, .dat F], [I k, I nd, I a, .dat K, .dat L], [I k2, I nd2, I a2, .dat K2, .dat L2], [I 200]]) = some (.ret (B false) (some ⟨[[.dat N, .dat F], [I k, I nd, I a, .dat K, .dat L], [I k2, I nd2, I a2, .dat K2, .dat L2], [I x]], 3, false⟩))) (hb2 : ev cfg (.call 6 [.agg [I k2, I nd2, I a2, .dat K2, .dat L2], .ptr 4 0, I 1] [[.dat N, .dat F], [I k, I nd, I a, .dat K, .dat L], [I k2, I nd2, I a2, .dat K2, .dat L2], [I x], [I 200]]) = some (.ret (B false) (some ⟨[[.dat N, .dat F], [I k, I nd, I a, .dat K, .dat L], [I k2, I nd2, I a2, .dat K2, .dat L2], [I x], [I y]], 4, false⟩))) (hs : ((k == 3) || (k2 == 3)) = true) (ha : ∀ b0 b1 b2 b3 b4 : Box, ev cfg (.call 7 [] [b0, b1, b2, b3, b4]) = some (.ret (B true) none)) :
  stepJ (ev cfg) cfg (.call 4 [.agg [.dat N, .dat F], .agg [I k, I nd, I a, .dat K, .dat L], .agg [I k2, I nd2, I a2, .dat K2, .dat L2]] []) = some (.ret (B true) none) := by
 obtain ⟨w1, g1, g2, g3⟩ := hN
 cases c : (k == 3)
 ·rw [c, Bool.false_or] at hs
  simp (maxSteps := 2000000) only [go_sem, seval, g3, hF, hK, hL, hK2, hL2, hlg, ha, hb1, hb2, c, hs]
 ·simp (maxSteps := 2000000) only [go_sem, seval, g3, hF, hK, hL, hK2, hL2, hlg, ha, hb1, hb2, c]
theorem grows_err (hN : IsS 5 nr N) (hF : F.oneC = true) (hK : K.oneC = true) (hL : L.oneC = true) (hK2 : K2.oneC = true) (hL2 : L2.oneC = true) (hlg : ∀ bx : List Box, ev cfg (.call 5 [.agg [.dat N, .dat F]] bx) = some (.ret (B false) none)) (hb1 : ev cfg (.call 6 [.agg [I k, I nd, I a, .dat K, .dat L], .ptr 3 0, I 1] [[.dat N, .dat F], [I k, I nd, I a, .dat K, .dat L], [I k2, I nd2, I a2, .dat K2, .dat L2], [I 200]]) = some (.ret (B false) (some ⟨[[.dat N, .dat F], [I k, I nd, I a, .dat K, .dat L], [I k2, I nd2, I a2, .dat K2, .dat L2], [I x]], 3, false⟩))) (hb2 : ev cfg (.call 6 [.agg [I k2, I nd2, I a2, .dat K2, .dat L2], .ptr 4 0, I 1] [[.dat N, .dat F], [I k, I nd, I a, .dat K, .dat L], [I k2, I nd2, I a2, .dat K2, .dat L2], [I x], [I 200]]) = some (.ret (B false) (some ⟨[[.dat N, .dat F], [I k, I nd, I a, .dat K, .dat L], [I k2, I nd2, I a2, .dat K2, .dat L2], [I x], [I y]], 4, false⟩))) (k3 : (k == 3) = false) (k4 : (k2 == 3) = false) (hl1 : ∀ bx : List Box, ev cfg (.call 11 [.agg [.dat N, .dat F], .agg [I k, I nd, I a, .dat K, .dat L]] bx) = some (.ret (.tup [.dat X1, I e]) none)) (hl2 : ∀ bx : List Box, ev cfg (.call 11 [.agg [.dat N, .dat F], .agg [I k2, I nd2, I a2, .dat K2, .dat L2]] bx) = some (.ret (.tup [.dat X2, I f]) none)) (hl3 : ∀ bx : List Box, ev cfg (.call 11 [.agg [.dat N, .dat F], .agg [I 3, I 0, I 0, .dat (.sl 5 [[dI k, dI nd, dI a, K, L], [dI k2, dI nd2, dI a2, K2, L2]]), .dat .nil]] bx) = some (.ret (.tup [.dat X3, I g]) none)) (q1 : IsS 1 xs1 X1) (q2 : IsS 1 xs2 X2) (q3 : IsS 1 xs3 X3) (he : ((e != 0) || (f != 0)) = true) (hg : (g != 0) = true) (ha : ∀ b0 b1 b2 b3 b4 b5 : Box, ev cfg (.call 7 [] [b0, b1, b2, b3, b4, b5]) = some (.ret (B true) none)) :
  stepJ (ev cfg) cfg (.call 4 [.agg [.dat N, .dat F], .agg [I k, I nd, I a, .dat K, .dat L], .agg [I k2, I nd2, I a2, .dat K2, .dat L2]] []) = some (.ret (B true) none) := by
 obtain ⟨w1, g1, g2, g3⟩ := hN
 obtain ⟨_, x1, _, y1⟩ := q1
 obtain ⟨_, x2, _, y2⟩ := q2
 obtain ⟨_, x3, _, y3⟩ := q3
 cases c : (e != 0)
 ·rw [c, Bool.false_or] at he
  simp (maxSteps := 2000000) only [go_sem, seval, x1, x2, x3, y1, y2, y3, g3, hF, hK, hL, hK2, hL2, hlg, ha, hb1, hb2, k3, k4, hl1, hl2, hl3, c, he, hg]
 ·simp (maxSteps := 2000000) only [go_sem, seval, x1, x2, x3, y1, y2, y3, g3, hF, hK, hL, hK2, hL2, hlg, ha, hb1, hb2, k3, k4, hl1, hl2, hl3, c, hg]
theorem grows_stop (hN : IsS 5 nr N) (hF : F.oneC = true) (hK : K.oneC = true) (hL : L.oneC = true) (hK2 : K2.oneC = true) (hL2 : L2.oneC = true) (hlg : ∀ bx : List Box, ev cfg (.call 5 [.agg [.dat N, .dat F]] bx) = some (.ret (B false) none)) (hb1 : ev cfg (.call 6 [.agg [I k, I nd, I a, .dat K, .dat L], .ptr 3 0, I 1] [[.dat N, .dat F], [I k, I nd, I a, .dat K, .dat L], [I k2, I nd2, I a2, .dat K2, .dat L2], [I 200]]) = some (.ret (B false) (some ⟨[[.dat N, .dat F], [I k, I nd, I a, .dat K, .dat L], [I k2, I nd2, I a2, .dat K2, .dat L2], [I x]], 3, false⟩))) (hb2 : ev cfg (.call 6 [.agg [I k2, I nd2, I a2, .dat K2, .dat L2], .ptr 4 0, I 1] [[.dat N, .dat F], [I k, I nd, I a, .dat K, .dat L], [I k2, I nd2, I a2, .dat K2, .dat L2], [I x], [I 200]]) = some (.ret (B false) (some ⟨[[.dat N, .dat F], [I k, I nd, I a, .dat K, .dat L], [I k2, I nd2, I a2, .dat K2, .dat L2], [I x], [I y]], 4, false⟩))) (k3 : (k == 3) = false) (k4 : (k2 == 3) = false) (hl1 : ∀ bx : List Box, ev cfg (.call 11 [.agg [.dat N, .dat F], .agg [I k, I nd, I a, .dat K, .dat L]] bx) = some (.ret (.tup [.dat X1, I 0]) none)) (hl2 : ∀ bx : List Box, ev cfg (.call 11 [.agg [.dat N, .dat F], .agg [I k2, I nd2, I a2, .dat K2, .dat L2]] bx) = some (.ret (.tup [.dat X2, I 0]) none)) (hl3 : ∀ bx : List Box, ev cfg (.call 11 [.agg [.dat N, .dat F], .agg [I 3, I 0, I 0, .dat (.sl 5 [[dI k, dI nd, dI a, K, L], [dI k2, dI nd2, dI a2, K2, L2]]), .dat .nil]] bx) = some (.ret (.tup [.dat X3, I g]) none)) (q1 : IsS 1 xs1 X1) (q2 : IsS 1 xs2 X2) (q3 : IsS 1 xs3 X3) (hsz : ∀ bx : List Box, ev cfg (.call 12 [.agg [I 3, I 0, I 0, .dat (.sl 5 [[dI k, dI nd, dI a, K, L], [dI k2, dI nd2, dI a2, K2, L2]]), .dat .nil]] bx) = some (.ret (I sz) none)) (href : ∀ bx : List Box, ev cfg (.call 14 [.agg [I 3, I 0, I 0, .dat (.sl 5 [[dI k, dI nd, dI a, K, L], [dI k2, dI nd2, dI a2, K2, L2]]), .dat .nil]] bx) = some (.ret (.agg [I 3, I 0, I 0, .dat M1, .dat M2]) none)) (hdp : ∀ bx : List Box, ev cfg (.call 13 [.agg [I 3, I 0, I 0, .dat M1, .dat M2]] bx) = some (.ret (I dp) none)) (oM1 : M1.oneC = true) (oM2 : M2.oneC = true) (hw : (decide (k >= 8) || (decide (k2 >= 8) || (decide (sz > 96) || decide (dp > 24)))) = true) (hg : (g != 0) = true) (ha : ∀ b0 b1 b2 b3 b4 b5 : Box, ev cfg (.call 7 [] [b0, b1, b2, b3, b4, b5]) = some (.ret (B true) none)) :
  stepJ (ev cfg) cfg (.call 4 [.agg [.dat N, .dat F], .agg [I k, I nd, I a, .dat K, .dat L], .agg [I k2, I nd2, I a2, .dat K2, .dat L2]] []) = some (.ret (B true) none) := by
 obtain ⟨w1, g1, g2, g3⟩ := hN
 obtain ⟨_, x1, _, y1⟩ := q1
 obtain ⟨_, x2, _, y2⟩ := q2
 obtain ⟨_, x3, _, y3⟩ := q3
 have z0 : ((0 : Int) != 0) = false := rfl
 cases c0 : decide (k >= 8)
 ·cases c1 : decide (k2 >= 8)
  ·cases c2 : decide (sz > 96)
   ·rw [c0, c1, c2, Bool.false_or, Bool.false_or, Bool.false_or] at hw
    simp (maxSteps := 2000000) only [go_sem, seval, x1, x2, x3, y1, y2, y3, g3, hF, hK, hL, hK2, hL2, hlg, ha, hb1, hb2, k3, k4, hl1, hl2, hl3, hsz, href, hdp, oM1, oM2, z0, hg, c0, c1, c2, hw]
   ·simp (maxSteps := 2000000) only [go_sem, seval, x1, x2, x3, y1, y2, y3, g3, hF, hK, hL, hK2, hL2, hlg, ha, hb1, hb2, k3, k4, hl1, hl2, hl3, hsz, href, hdp, oM1, oM2, z0, hg, c0, c1, c2]
  ·simp (maxSteps := 2000000) only [go_sem, seval, x1, x2, x3, y1, y2, y3, g3, hF, hK, hL, hK2, hL2, hlg, ha, hb1, hb2, k3, k4, hl1, hl2, hl3, hsz, href, hdp, oM1, oM2, z0, hg, c0, c1]
 ·simp (maxSteps := 2000000) only [go_sem, seval, x1, x2, x3, y1, y2, y3, g3, hF, hK, hL, hK2, hL2, hlg, ha, hb1, hb2, k3, k4, hl1, hl2, hl3, hsz, href, hdp, oM1, oM2, z0, hg, c0]
theorem grows_t (hN : IsS 5 nr N) (hF : F.oneC = true) (hK : K.oneC = true) (hL : L.oneC = true) (hK2 : K2.oneC = true) (hL2 : L2.oneC = true) (oX1 : X1.oneC = true) (oX2 : X2.oneC = true) (oX3 : X3.oneC = true) (hlt : i < nr.length) (hmax : nr.length < 9223372036854775808) :
  stepJ (ev cfg) cfg (.loop 4 13 ⟨(sh4_13 (.ptr 0 0) (.ptr 1 0) (.ptr 2 0) (.dat X1) (.dat X2) (.dat X3) (I g) (B true) (I nr.length) (I i)), [[.dat N, .dat F], [I k, I nd, I a, .dat K, .dat L], [I k2, I nd2, I a2, .dat K2, .dat L2], [I x], [I y], [I 3, I 0, I 0, .dat (.sl 5 [[dI k, dI nd, dI a, K, L], [dI k2, dI nd2, dI a2, K2, L2]]), .dat .nil]], 0, none, false⟩) = ev cfg (.loop 4 13 ⟨(sh4_13 (.ptr 0 0) (.ptr 1 0) (.ptr 2 0) (.dat X1) (.dat X2) (.dat X3) (I g) (B true) (I nr.length) (I ((i + 1 : Nat) : Int))), [[.dat N, .dat F], [I k, I nd, I a, .dat K, .dat L], [I k2, I nd2, I a2, .dat K2, .dat L2], [I x], [I y], [I 3, I 0, I 0, .dat (.sl 5 [[dI k, dI nd, dI a, K, L], [dI k2, dI nd2, dI a2, K2, L2]]), .dat .nil]], 0, none, false⟩) := by
 obtain ⟨w1, g1, g2, g3⟩ := hN
 simp (maxSteps := 2000000) only [go_sem, seval, g3, hF, hK, hL, hK2, hL2, oX1, oX2, oX3, nat_lt hlt, nat_succ hlt hmax]
theorem grows_0 (hN : IsS 5 nr N) (hF : F.oneC = true) (hK : K.oneC = true) (hL : L.oneC = true) (hK2 : K2.oneC = true) (hL2 : L2.oneC = true) (oX1 : X1.oneC = true) (oX2 : X2.oneC = true) (oX3 : X3.oneC = true) (hlt : i < nr.length) (hmax : nr.length < 9223372036854775808) (hr1 : ∀ bx : List Box, ev cfg (.call 14 [.agg [I k, I nd, I a, .dat K, .dat L]] bx) = some (.ret (.agg [I k, I nd, I a, .dat R1, .dat R2]) none)) (hr2 : ∀ bx : List Box, ev cfg (.call 14 [.agg [I k2, I nd2, I a2, .dat K2, .dat L2]] bx) = some (.ret (.agg [I k2, I nd2, I a2, .dat S1, .dat S2]) none)) (oR1 : R1.oneC = true) (oR2 : R2.oneC = true) (oS1 : S1.oneC = true) (oS2 : S2.oneC = true) (ht1 : ∀ bx : List Box, ev cfg (.call 15 [.agg [.dat N, .dat F], .agg [I k, I nd, I a, .dat R1, .dat R2], I i] bx) = some (.ret (I t1) none)) (c : decide (t1 > 0) = false) :
  stepJ (ev cfg) cfg (.loop 4 13 ⟨(sh4_13 (.ptr 0 0) (.ptr 1 0) (.ptr 2 0) (.dat X1) (.dat X2) (.dat X3) (I g) (B false) (I nr.length) (I i)), [[.dat N, .dat F], [I k, I nd, I a, .dat K, .dat L], [I k2, I nd2, I a2, .dat K2, .dat L2], [I x], [I y], [I 3, I 0, I 0, .dat (.sl 5 [[dI k, dI nd, dI a, K, L], [dI k2, dI nd2, dI a2, K2, L2]]), .dat .nil]], 0, none, false⟩) = ev cfg (.loop 4 13 ⟨(sh4_13 (.ptr 0 0) (.ptr 1 0) (.ptr 2 0) (.dat X1) (.dat X2) (.dat X3) (I g) (B false) (I nr.length) (I ((i + 1 : Nat) : Int))), [[.dat N, .dat F], [I k, I nd, I a, .dat K, .dat L], [I k2, I nd2, I a2, .dat K2, .dat L2], [I x], [I y], [I 3, I 0, I 0, .dat (.sl 5 [[dI k, dI nd, dI a, K, L], [dI k2, dI nd2, dI a2, K2, L2]]), .dat .nil]], 0, none, false⟩) := by
 obtain ⟨w1, g1, g2, g3⟩ := hN
 simp (maxSteps := 2000000) only [go_sem, seval, g3, hF, hK, hL, hK2, hL2, oX1, oX2, oX3, nat_lt hlt, nat_succ hlt hmax, hr1, oR1, oR2, ht1, c]
theorem grows_1 (hN : IsS 5 nr N) (hF : F.oneC = true) (hK : K.oneC = true) (hL : L.oneC = true) (hK2 : K2.oneC = true) (hL2 : L2.oneC = true) (oX1 : X1.oneC = true) (oX2 : X2.oneC = true) (oX3 : X3.oneC = true) (hlt : i < nr.length) (hmax : nr.length < 9223372036854775808) (hr1 : ∀ bx : List Box, ev cfg (.call 14 [.agg [I k, I nd, I a, .dat K, .dat L]] bx) = some (.ret (.agg [I k, I nd, I a, .dat R1, .dat R2]) none)) (hr2 : ∀ bx : List Box, ev cfg (.call 14 [.agg [I k2, I nd2, I a2, .dat K2, .dat L2]] bx) = some (.ret (.agg [I k2, I nd2, I a2, .dat S1, .dat S2]) none)) (oR1 : R1.oneC = true) (oR2 : R2.oneC = true) (oS1 : S1.oneC = true) (oS2 : S2.oneC = true) (ht1 : ∀ bx : List Box, ev cfg (.call 15 [.agg [.dat N, .dat F], .agg [I k, I nd, I a, .dat R1, .dat R2], I i] bx) = some (.ret (I t1) none)) (ht2 : ∀ bx : List Box, ev cfg (.call 15 [.agg [.dat N, .dat F], .agg [I k2, I nd2, I a2, .dat S1, .dat S2], I i] bx) = some (.ret (I t2) none)) (c : decide (t1 > 0) = true) :
  stepJ (ev cfg) cfg (.loop 4 13 ⟨(sh4_13 (.ptr 0 0) (.ptr 1 0) (.ptr 2 0) (.dat X1) (.dat X2) (.dat X3) (I g) (B false) (I nr.length) (I i)), [[.dat N, .dat F], [I k, I nd, I a, .dat K, .dat L], [I k2, I nd2, I a2, .dat K2, .dat L2], [I x], [I y], [I 3, I 0, I 0, .dat (.sl 5 [[dI k, dI nd, dI a, K, L], [dI k2, dI nd2, dI a2, K2, L2]]), .dat .nil]], 0, none, false⟩) = ev cfg (.loop 4 13 ⟨(sh4_13 (.ptr 0 0) (.ptr 1 0) (.ptr 2 0) (.dat X1) (.dat X2) (.dat X3) (I g) (B (decide (t2 > 0))) (I nr.length) (I ((i + 1 : Nat) : Int))), [[.dat N, .dat F], [I k, I nd, I a, .dat K, .dat L], [I k2, I nd2, I a2, .dat K2, .dat L2], [I x], [I y], [I 3, I 0, I 0, .dat (.sl 5 [[dI k, dI nd, dI a, K, L], [dI k2, dI nd2, dI a2, K2, L2]]), .dat .nil]], 0, none, false⟩) := by
 obtain ⟨w1, g1, g2, g3⟩ := hN
 cases c2 : decide (t2 > 0)
 ·simp (maxSteps := 2000000) only [go_sem, seval, g3, hF, hK, hL, hK2, hL2, oX1, oX2, oX3, nat_lt hlt, nat_succ hlt hmax, hr1, hr2, oR1, oR2, oS1, oS2, ht1, ht2, c, c2]
 ·simp (maxSteps := 2000000) only [go_sem, seval, g3, hF, hK, hL, hK2, hL2, oX1, oX2, oX3, nat_lt hlt, nat_succ hlt hmax, hr1, hr2, oR1, oR2, oS1, oS2, ht1, ht2, c, c2]
theorem grows_lend (hN : IsS 5 nr N) (hF : F.oneC = true) (hK : K.oneC = true) (hL : L.oneC = true) (hK2 : K2.oneC = true) (hL2 : L2.oneC = true) (oX1 : X1.oneC = true) (oX2 : X2.oneC = true) (oX3 : X3.oneC = true) (hge : nr.length <= i) :
  stepJ (ev cfg) cfg (.loop 4 13 ⟨(sh4_13 (.ptr 0 0) (.ptr 1 0) (.ptr 2 0) (.dat X1) (.dat X2) (.dat X3) (I g) (B sh) (I nr.length) (I i)), [[.dat N, .dat F], [I k, I nd, I a, .dat K, .dat L], [I k2, I nd2, I a2, .dat K2, .dat L2], [I x], [I y], [I 3, I 0, I 0, .dat (.sl 5 [[dI k, dI nd, dI a, K, L], [dI k2, dI nd2, dI a2, K2, L2]]), .dat .nil]], 0, none, false⟩) = some (.loop (.exit 0) ⟨(se4_13 (.dat X1) (.dat X2) (.dat X3) (I g) (B sh)), [[.dat N, .dat F], [I k, I nd, I a, .dat K, .dat L], [I k2, I nd2, I a2, .dat K2, .dat L2], [I x], [I y], [I 3, I 0, I 0, .dat (.sl 5 [[dI k, dI nd, dI a, K, L], [dI k2, dI nd2, dI a2, K2, L2]]), .dat .nil]], 0, none, false⟩) := by
 obtain ⟨w1, g1, g2, g3⟩ := hN
 simp (maxSteps := 2000000) only [go_sem, seval, g3, hF, hK, hL, hK2, hL2, oX1, oX2, oX3, nat_ge hge]
end
section
variable {bx : List Box} {acc : List (List D)} {N F K L K2 L2 : D} {l l0 : Nat} {k a n k2 n2 a2 r q : Int} {v : Bool}
theorem clone_nil : stepJ (ev cfg) cfg (.call 22 [.dat .nil] bx) = some (.ret (.dat .nil) none) := by
 simp (maxSteps := 2000000) only [go_sem, seval]
theorem clone_rows {r : List D} {rs : List (List D)} (hks : (rs.length + 1) * 8 <= 140737488355328) : stepJ (ev cfg) cfg (.call 22 [.dat (.sl 1 (r :: rs))] bx) = some (.ret (.own true 1 (r :: rs)) none) := by
 simp (maxSteps := 2000000) only [go_sem, seval, hks]
theorem nest1_f (hK : K2.oneC = true) (hL : L2.oneC = true) (hN : N.oneC = true) (hF : F.oneC = true) (hl0 : l0 < bx.length) (hl : l < bx.length) (b0 : bx[l0]? = some [I k, I n, I a, .dat K, .dat L]) (b1 : bx[l]? = some [.dat N, .dat F])
  (hv : ∀ bx : List Box, ev cfg (.call 19 [.agg [.dat N, .dat F], .agg [I k2, I n2, I a2, .dat K2, .dat L2]] bx) = some (.ret (B v) none)) :
  stepJ (ev cfg) cfg (.call 37 [.agg [I k2, I n2, I a2, .dat K2, .dat L2], .ptr l0 0, .ptr l 0] bx) = some (.ret (B (k2 == 9 || (k2 == 10 || ((k2 == 8 && k != 9) || !v)))) none) := by
 cases c0 : (k2 == 9)
 ·cases c1 : (k2 == 10)
  ·cases c2 : (k2 == 8)
   ·simp (maxSteps := 2000000) only [go_sem, seval, hK, hL, hN, hF, hl0, hl, b0, b1, hv, c0, c1, c2]
   ·cases c3 : (k != 9)
    ·simp (maxSteps := 2000000) only [go_sem, seval, hK, hL, hN, hF, hl0, hl, b0, b1, hv, c0, c1, c2, c3]
    ·simp (maxSteps := 2000000) only [go_sem, seval, hK, hL, hN, hF, hl0, hl, b0, b1, hv, c0, c1, c2, c3]
  ·simp (maxSteps := 2000000) only [go_sem, seval, hK, hL, hN, hF, hl0, hl, b0, b1, hv, c0, c1]
 ·simp (maxSteps := 2000000) only [go_sem, seval, hK, hL, hN, hF, hl0, hl, b0, b1, hv, c0]
theorem nest_no (hK : K.oneC = true) (hL : L.oneC = true) (hN : N.oneC = true) (hF : F.oneC = true) (hr : ∀ bx : List Box, ev cfg (.call 35 [.agg [.dat N, .dat F], .agg [I k, I n, I a, .dat K, .dat L]] bx) = some (.ret (B false) none)) :
  stepJ (ev cfg) cfg (.call 19 [.agg [.dat N, .dat F], .agg [I k, I n, I a, .dat K, .dat L]] bx) = some (.ret (B false) none) := by
 simp (maxSteps := 2000000) only [go_sem, seval, hK, hL, hN, hF, hr]
theorem nest_f (hK : K.oneC = true) (hL : L.oneC = true) (hN : N.oneC = true) (hF : F.oneC = true) (hr : ∀ bx : List Box, ev cfg (.call 35 [.agg [.dat N, .dat F], .agg [I k, I n, I a, .dat K, .dat L]] bx) = some (.ret (B true) none))
  (hv : ev cfg (.call 36 [.dat K, .clo 37 [bx.length + 1, bx.length]] (bx ++ [[.dat N, .dat F], [I k, I n, I a, .dat K, .dat L]])) = some (.ret (B v) none)) :
  stepJ (ev cfg) cfg (.call 19 [.agg [.dat N, .dat F], .agg [I k, I n, I a, .dat K, .dat L]] bx) = some (.ret (B (!v)) none) := by
 simp (maxSteps := 2000000) only [go_sem, seval, hK, hL, hN, hF, hr, hv]
theorem bcheck_arg (hK : K.oneC = true) (hL : L.oneC = true) (hN : N.oneC = true) (hF : F.oneC = true) (hn : ∀ bx : List Box, ev cfg (.call 17 [.agg [.dat N, .dat F]] bx) = some (.ret (.tup [I r, I q]) none)) (hr : (r != 0) = true) :
  stepJ (ev cfg) cfg (.call 8 [.agg [.dat N, .dat F], .agg [I k, I n, I a, .dat K, .dat L]] bx) = some (.ret (I 1) none) := by
 simp (maxSteps := 2000000) only [go_sem, seval, hK, hL, hN, hF, hn, hr]
theorem bcheck_long (hK : K.oneC = true) (hL : L.oneC = true) (hN : N.oneC = true) (hF : F.oneC = true) (hn : ∀ bx : List Box, ev cfg (.call 17 [.agg [.dat N, .dat F]] bx) = some (.ret (.tup [I 0, I q]) none)) (hlg : ∀ bx : List Box, ev cfg (.call 18 [.agg [I k, I n, I a, .dat K, .dat L]] bx) = some (.ret (B true) none)) :
  stepJ (ev cfg) cfg (.call 8 [.agg [.dat N, .dat F], .agg [I k, I n, I a, .dat K, .dat L]] bx) = some (.ret (I 2) none) := by
 simp (maxSteps := 2000000) only [go_sem, seval, hK, hL, hN, hF, hn, hlg]
theorem bcheck_form (hK : K.oneC = true) (hL : L.oneC = true) (hN : N.oneC = true) (hF : F.oneC = true) (hn : ∀ bx : List Box, ev cfg (.call 17 [.agg [.dat N, .dat F]] bx) = some (.ret (.tup [I 0, I q]) none)) (hlg : ∀ bx : List Box, ev cfg (.call 18 [.agg [I k, I n, I a, .dat K, .dat L]] bx) = some (.ret (B false) none)) (hns : ∀ bx : List Box, ev cfg (.call 19 [.agg [.dat N, .dat F], .agg [I k, I n, I a, .dat K, .dat L]] bx) = some (.ret (B false) none)) :
  stepJ (ev cfg) cfg (.call 8 [.agg [.dat N, .dat F], .agg [I k, I n, I a, .dat K, .dat L]] bx) = some (.ret (I 4) none) := by
 simp (maxSteps := 2000000) only [go_sem, seval, hK, hL, hN, hF, hn, hlg, hns]
theorem bcheck_nil (hK : K.oneC = true) (hL : L.oneC = true) (hN : N.oneC = true) (hF : F.oneC = true) (hn : ∀ bx : List Box, ev cfg (.call 17 [.agg [.dat N, .dat F]] bx) = some (.ret (.tup [I 0, I q]) none)) (hlg : ∀ bx : List Box, ev cfg (.call 18 [.agg [I k, I n, I a, .dat K, .dat L]] bx) = some (.ret (B false) none)) (hns : ∀ bx : List Box, ev cfg (.call 19 [.agg [.dat N, .dat F], .agg [I k, I n, I a, .dat K, .dat L]] bx) = some (.ret (B true) none)) (hno : ∀ bx : List Box, ev cfg (.call 20 [.agg [.dat N, .dat F], .agg [I k, I n, I a, .dat K, .dat L]] bx) = some (.ret (.dat .nil) none)) (hcl : ∀ bx : List Box, ev cfg (.call 22 [.dat .nil] bx) = some (.ret (.dat .nil) none)) :
  stepJ (ev cfg) cfg (.call 8 [.agg [.dat N, .dat F], .agg [I k, I n, I a, .dat K, .dat L]] bx) = some (.ret (I 0) none) := by
 have z0 : decide (((0 : Nat) : Int) < ((0 : Nat) : Int)) = false := by decide
 simp (maxSteps := 2000000) only [go_sem, seval, hK, hL, hN, hF, hn, hlg, hns, hno, hcl, z0]
theorem bcheck_same {zs : List Int} (hK : K.oneC = true) (hL : L.oneC = true) (hN : N.oneC = true) (hF : F.oneC = true) (hn : ∀ bx : List Box, ev cfg (.call 17 [.agg [.dat N, .dat F]] bx) = some (.ret (.tup [I 0, I q]) none)) (hlg : ∀ bx : List Box, ev cfg (.call 18 [.agg [I k, I n, I a, .dat K, .dat L]] bx) = some (.ret (B false) none)) (hns : ∀ bx : List Box, ev cfg (.call 19 [.agg [.dat N, .dat F], .agg [I k, I n, I a, .dat K, .dat L]] bx) = some (.ret (B true) none)) (hno : ∀ bx : List Box, ev cfg (.call 20 [.agg [.dat N, .dat F], .agg [I k, I n, I a, .dat K, .dat L]] bx) = some (.ret (.own true 1 acc) none)) (hcl : ∀ bx : List Box, ev cfg (.call 22 [.dat (.sl 1 acc)] bx) = some (.ret (.own true 1 acc) none)) (hz : intRows acc = some zs) (hzl : zs.length < 4611686018427387904) (hlt : decide (((rowsOf (Lib.compact zs)).length : Int) < (acc.length : Int)) = true) :
  stepJ (ev cfg) cfg (.call 8 [.agg [.dat N, .dat F], .agg [I k, I n, I a, .dat K, .dat L]] bx) = some (.ret (I 8) none) := by
 simp (maxSteps := 2000000) only [go_sem, seval, hK, hL, hN, hF, hn, hlg, hns, hno, hcl, hz, hzl, hlt]
theorem bcheck_ok {zs : List Int} (hK : K.oneC = true) (hL : L.oneC = true) (hN : N.oneC = true) (hF : F.oneC = true) (hn : ∀ bx : List Box, ev cfg (.call 17 [.agg [.dat N, .dat F]] bx) = some (.ret (.tup [I 0, I q]) none)) (hlg : ∀ bx : List Box, ev cfg (.call 18 [.agg [I k, I n, I a, .dat K, .dat L]] bx) = some (.ret (B false) none)) (hns : ∀ bx : List Box, ev cfg (.call 19 [.agg [.dat N, .dat F], .agg [I k, I n, I a, .dat K, .dat L]] bx) = some (.ret (B true) none)) (hno : ∀ bx : List Box, ev cfg (.call 20 [.agg [.dat N, .dat F], .agg [I k, I n, I a, .dat K, .dat L]] bx) = some (.ret (.own true 1 acc) none)) (hcl : ∀ bx : List Box, ev cfg (.call 22 [.dat (.sl 1 acc)] bx) = some (.ret (.own true 1 acc) none)) (hz : intRows acc = some zs) (hzl : zs.length < 4611686018427387904) (hlt : decide (((rowsOf (Lib.compact zs)).length : Int) < (acc.length : Int)) = false) :
  stepJ (ev cfg) cfg (.call 8 [.agg [.dat N, .dat F], .agg [I k, I n, I a, .dat K, .dat L]] bx) = some (.ret (I 0) none) := by
 simp (maxSteps := 2000000) only [go_sem, seval, hK, hL, hN, hF, hn, hlg, hns, hno, hcl, hz, hzl, hlt]
end
section
variable {bx : List Box} {nr fr ors irs : List (List D)} {N F X Y K K2 : D} {i j p : Nat} {k kd a op n op2 n2 f el ins : Int} {e cat : Bool}
theorem link_round (hN : IsS 5 nr N) (hF : IsS 6 fr F) (hX : IsS 1 ors X) (hget : ors[i]? = some [dI j]) (hj : fr[j]? = some [dI f, dI p, .lit (.bool e), dI op, dI n, K]) (hp : nr[p]? = some [dI k, dI a, dI op2, dI n2, K2]) (hlt : i < ors.length) (hmax : ors.length < 9223372036854775808) (hel : IntKind.wrap .i64 (el + 1) = el + 1) :
  stepJ (ev cfg) cfg (.loop 67 6 (qs bx (sh67_6 (.ptr bx.length 0) (.dat X) (I ins) (I kd) (I el) (B cat) (.dat X) (I ors.length) (I i)) [[.dat N, .dat F]])) =
   ev cfg (.loop 67 6 (qs bx (sh67_6 (.ptr bx.length 0) (.dat X) (I ins) (I kd) (I (if e = true then el + 1 else el)) (B (cat && k == 8)) (.dat X) (I ors.length) (I ((i + 1 : Nat) : Int))) [[.dat N, .dat F]])) := by
 obtain ⟨w, h1, h2, h3⟩ := hN
 obtain rfl := isS_w h2 hp
 obtain ⟨w, g1, g2, g3⟩ := hF
 obtain rfl := isS_w g2 hj
 obtain ⟨w, q1, q2, q3⟩ := hX
 obtain rfl := isS_w q2 hget
 have l1 : j < fr.length := (gsi.1 hj).1
 have l2 : p < nr.length := (gsi.1 hp).1
 cases e <;> cases cat <;> simp (maxSteps := 2000000) only [go_sem, seval, h1, h3, g1, g3, q1, q3, hget, hj, hp, l1, l2, nat_lt hlt, nat_neg, tnc, hel, nat_succ hlt hmax]
theorem link_end {m : Nat} (hN : N.oneC = true) (hF : F.oneC = true) (hX : X.oneC = true) (hge : m <= i) :
  stepJ (ev cfg) cfg (.loop 67 6 (qs bx (sh67_6 (.ptr bx.length 0) (.dat X) (I ins) (I kd) (I el) (B cat) (.dat X) (I m) (I i)) [[.dat N, .dat F]])) =
   some (.loop (.exit 0) (qs bx (se67_6 (.dat X) (I ins) (I kd) (I el) (B cat)) [[.dat N, .dat F]])) := by
 simp (maxSteps := 2000000) only [go_sem, seval, hN, hF, hX, nat_ge hge]
theorem link_1 (hN : IsS 5 nr N) (hF : F.oneC = true) (hX : IsS 1 ors X) (hY : IsS 1 irs Y) (hp : nr[p]? = some [dI 1, dI a, dI op2, dI n2, K2])
  (hO : ∀ bx : List Box, ev cfg (.call 39 [.agg [.dat N, .dat F], I p] bx) = some (.ret (.dat X) none)) (hI : ∀ bx : List Box, ev cfg (.call 83 [.agg [.dat N, .dat F], I p] bx) = some (.ret (.dat Y) none))
  (hloop : ev cfg (.loop 67 6 (qs bx (sh67_6 (.ptr bx.length 0) (.dat X) (I irs.length) (I 1) (I 0) (B true) (.dat X) (I ors.length) (I 0)) [[.dat N, .dat F]])) =
   some (.loop (.exit 0) (qs bx (se67_6 (.dat X) (I irs.length) (I 1) (I el) (B cat)) [[.dat N, .dat F]]))) :
  stepJ (ev cfg) cfg (.call 67 [.agg [.dat N, .dat F], I p] bx) = some (.ret (B (((irs.length : Int) == 0) && ((ors.length : Int) == 1))) none) := by
 obtain ⟨w, h1, h2, h3⟩ := hN
 obtain rfl := isS_w h2 hp
 obtain ⟨w', g1, g2, g3⟩ := hX
 obtain ⟨w'', q1, q2, q3⟩ := hY
 have l2 : p < nr.length := (gsi.1 hp).1
 cases c0 : ((irs.length : Int) == 0) <;> cases c1 : ((ors.length : Int) == 1) <;> simp (maxSteps := 2000000) only [go_sem, seval, h1, h3, g1, g3, q1, q3, hF, hp, l2, hO, hI, hloop, nat_neg, tnc, c0, c1]
theorem link_2 (hN : IsS 5 nr N) (hF : F.oneC = true) (hX : IsS 1 ors X) (hY : IsS 1 irs Y) (hp : nr[p]? = some [dI 2, dI a, dI op2, dI n2, K2])
  (hO : ∀ bx : List Box, ev cfg (.call 39 [.agg [.dat N, .dat F], I p] bx) = some (.ret (.dat X) none)) (hI : ∀ bx : List Box, ev cfg (.call 83 [.agg [.dat N, .dat F], I p] bx) = some (.ret (.dat Y) none))
  (hloop : ev cfg (.loop 67 6 (qs bx (sh67_6 (.ptr bx.length 0) (.dat X) (I irs.length) (I 2) (I 0) (B true) (.dat X) (I ors.length) (I 0)) [[.dat N, .dat F]])) =
   some (.loop (.exit 0) (qs bx (se67_6 (.dat X) (I irs.length) (I 2) (I el) (B cat)) [[.dat N, .dat F]]))) :
  stepJ (ev cfg) cfg (.call 67 [.agg [.dat N, .dat F], I p] bx) = some (.ret (B (((irs.length : Int) == 1) && ((ors.length : Int) == 0))) none) := by
 obtain ⟨w, h1, h2, h3⟩ := hN
 obtain rfl := isS_w h2 hp
 obtain ⟨w', g1, g2, g3⟩ := hX
 obtain ⟨w'', q1, q2, q3⟩ := hY
 have l2 : p < nr.length := (gsi.1 hp).1
 cases c0 : ((irs.length : Int) == 1) <;> cases c1 : ((ors.length : Int) == 0) <;> simp (maxSteps := 2000000) only [go_sem, seval, h1, h3, g1, g3, q1, q3, hF, hp, l2, hO, hI, hloop, nat_neg, tnc, c0, c1]
end
section
variable {bx : List Box} {nr ors irs : List (List D)} {N F X Y K2 : D} {p : Nat} {a op2 n2 el : Int} {cat : Bool}
theorem link_7 (hN : IsS 5 nr N) (hF : F.oneC = true) (hX : IsS 1 ors X) (hY : IsS 1 irs Y) (hp : nr[p]? = some [dI 7, dI a, dI op2, dI n2, K2])
  (hO : ∀ bx : List Box, ev cfg (.call 39 [.agg [.dat N, .dat F], I p] bx) = some (.ret (.dat X) none)) (hI : ∀ bx : List Box, ev cfg (.call 83 [.agg [.dat N, .dat F], I p] bx) = some (.ret (.dat Y) none))
  (hloop : ev cfg (.loop 67 6 (qs bx (sh67_6 (.ptr bx.length 0) (.dat X) (I irs.length) (I 7) (I 0) (B true) (.dat X) (I ors.length) (I 0)) [[.dat N, .dat F]])) =
   some (.loop (.exit 0) (qs bx (se67_6 (.dat X) (I irs.length) (I 7) (I el) (B cat)) [[.dat N, .dat F]]))) :
  stepJ (ev cfg) cfg (.call 67 [.agg [.dat N, .dat F], I p] bx) = some (.ret (B (((irs.length : Int) == 1) && (decide ((ors.length : Int) > 1) && cat))) none) := by
 obtain ⟨w, h1, h2, h3⟩ := hN
 obtain rfl := isS_w h2 hp
 obtain ⟨w', g1, g2, g3⟩ := hX
 obtain ⟨w'', q1, q2, q3⟩ := hY
 have l2 : p < nr.length := (gsi.1 hp).1
 cases c0 : ((irs.length : Int) == 1) <;> cases c1 : decide ((ors.length : Int) > 1) <;> simp (maxSteps := 2000000) only [go_sem, seval, h1, h3, g1, g3, q1, q3, hF, hp, l2, hO, hI, hloop, nat_neg, tnc, c0, c1]
theorem link_6 (hN : IsS 5 nr N) (hF : F.oneC = true) (hX : IsS 1 ors X) (hY : IsS 1 irs Y) (hp : nr[p]? = some [dI 6, dI a, dI op2, dI n2, K2])
  (hO : ∀ bx : List Box, ev cfg (.call 39 [.agg [.dat N, .dat F], I p] bx) = some (.ret (.dat X) none)) (hI : ∀ bx : List Box, ev cfg (.call 83 [.agg [.dat N, .dat F], I p] bx) = some (.ret (.dat Y) none))
  (hloop : ev cfg (.loop 67 6 (qs bx (sh67_6 (.ptr bx.length 0) (.dat X) (I irs.length) (I 6) (I 0) (B true) (.dat X) (I ors.length) (I 0)) [[.dat N, .dat F]])) =
   some (.loop (.exit 0) (qs bx (se67_6 (.dat X) (I irs.length) (I 6) (I el) (B cat)) [[.dat N, .dat F]]))) :
  stepJ (ev cfg) cfg (.call 67 [.agg [.dat N, .dat F], I p] bx) = some (.ret (B ((((irs.length : Int) == 1) && decide ((ors.length : Int) > 1)) || (decide ((irs.length : Int) > 1) && ((ors.length : Int) == 1)))) none) := by
 obtain ⟨w, h1, h2, h3⟩ := hN
 obtain rfl := isS_w h2 hp
 obtain ⟨w', g1, g2, g3⟩ := hX
 obtain ⟨w'', q1, q2, q3⟩ := hY
 have l2 : p < nr.length := (gsi.1 hp).1
 cases c0 : ((irs.length : Int) == 1)
 ·cases c1 : decide ((irs.length : Int) > 1)
  ·simp (maxSteps := 2000000) only [go_sem, seval, h1, h3, g1, g3, q1, q3, hF, hp, l2, hO, hI, hloop, nat_neg, tnc, c0, c1]
  ·cases c2 : ((ors.length : Int) == 1)
   ·simp (maxSteps := 2000000) only [go_sem, seval, h1, h3, g1, g3, q1, q3, hF, hp, l2, hO, hI, hloop, nat_neg, tnc, c0, c1, c2]
   ·simp (maxSteps := 2000000) only [go_sem, seval, h1, h3, g1, g3, q1, q3, hF, hp, l2, hO, hI, hloop, nat_neg, tnc, c0, c1, c2]
 ·cases c1 : decide ((ors.length : Int) > 1)
  ·cases c2 : decide ((irs.length : Int) > 1)
   ·simp (maxSteps := 2000000) only [go_sem, seval, h1, h3, g1, g3, q1, q3, hF, hp, l2, hO, hI, hloop, nat_neg, tnc, c0, c1, c2]
   ·cases c3 : ((ors.length : Int) == 1)
    ·simp (maxSteps := 2000000) only [go_sem, seval, h1, h3, g1, g3, q1, q3, hF, hp, l2, hO, hI, hloop, nat_neg, tnc, c0, c1, c2, c3]
    ·simp (maxSteps := 2000000) only [go_sem, seval, h1, h3, g1, g3, q1, q3, hF, hp, l2, hO, hI, hloop, nat_neg, tnc, c0, c1, c2, c3]
  ·simp (maxSteps := 2000000) only [go_sem, seval, h1, h3, g1, g3, q1, q3, hF, hp, l2, hO, hI, hloop, nat_neg, tnc, c0, c1]
end
section
variable {bx : List Box} {nr ors irs : List (List D)} {N F X Y K2 : D} {p : Nat} {a op2 n2 el : Int} {cat : Bool}
theorem link_5 (hN : IsS 5 nr N) (hF : F.oneC = true) (hX : IsS 1 ors X) (hY : IsS 1 irs Y) (hp : nr[p]? = some [dI 5, dI a, dI op2, dI n2, K2])
  (hO : ∀ bx : List Box, ev cfg (.call 39 [.agg [.dat N, .dat F], I p] bx) = some (.ret (.dat X) none)) (hI : ∀ bx : List Box, ev cfg (.call 83 [.agg [.dat N, .dat F], I p] bx) = some (.ret (.dat Y) none))
  (hloop : ev cfg (.loop 67 6 (qs bx (sh67_6 (.ptr bx.length 0) (.dat X) (I irs.length) (I 5) (I 0) (B true) (.dat X) (I ors.length) (I 0)) [[.dat N, .dat F]])) =
   some (.loop (.exit 0) (qs bx (se67_6 (.dat X) (I irs.length) (I 5) (I el) (B cat)) [[.dat N, .dat F]]))) :
  stepJ (ev cfg) cfg (.call 67 [.agg [.dat N, .dat F], I p] bx) = some (.ret (B ((((irs.length : Int) == 1) && (decide ((ors.length : Int) > 1) && el == 1)) || (decide ((irs.length : Int) > 1) && ((ors.length : Int) == 1)))) none) := by
 obtain ⟨w, h1, h2, h3⟩ := hN
 obtain rfl := isS_w h2 hp
 obtain ⟨w', g1, g2, g3⟩ := hX
 obtain ⟨w'', q1, q2, q3⟩ := hY
 have l2 : p < nr.length := (gsi.1 hp).1
 cases c0 : ((irs.length : Int) == 1)
 ·cases c1 : decide ((irs.length : Int) > 1)
  ·simp (maxSteps := 2000000) only [go_sem, seval, h1, h3, g1, g3, q1, q3, hF, hp, l2, hO, hI, hloop, nat_neg, tnc, c0, c1]
  ·cases c2 : ((ors.length : Int) == 1)
   ·simp (maxSteps := 2000000) only [go_sem, seval, h1, h3, g1, g3, q1, q3, hF, hp, l2, hO, hI, hloop, nat_neg, tnc, c0, c1, c2]
   ·simp (maxSteps := 2000000) only [go_sem, seval, h1, h3, g1, g3, q1, q3, hF, hp, l2, hO, hI, hloop, nat_neg, tnc, c0, c1, c2]
 ·cases c1 : decide ((ors.length : Int) > 1)
  ·cases c2 : decide ((irs.length : Int) > 1)
   ·simp (maxSteps := 2000000) only [go_sem, seval, h1, h3, g1, g3, q1, q3, hF, hp, l2, hO, hI, hloop, nat_neg, tnc, c0, c1, c2]
   ·cases c3 : ((ors.length : Int) == 1)
    ·simp (maxSteps := 2000000) only [go_sem, seval, h1, h3, g1, g3, q1, q3, hF, hp, l2, hO, hI, hloop, nat_neg, tnc, c0, c1, c2, c3]
    ·simp (maxSteps := 2000000) only [go_sem, seval, h1, h3, g1, g3, q1, q3, hF, hp, l2, hO, hI, hloop, nat_neg, tnc, c0, c1, c2, c3]
  ·cases c2 : (el == 1)
   ·cases c3 : decide ((irs.length : Int) > 1)
    ·simp (maxSteps := 2000000) only [go_sem, seval, h1, h3, g1, g3, q1, q3, hF, hp, l2, hO, hI, hloop, nat_neg, tnc, c0, c1, c2, c3]
    ·cases c4 : ((ors.length : Int) == 1)
     ·simp (maxSteps := 2000000) only [go_sem, seval, h1, h3, g1, g3, q1, q3, hF, hp, l2, hO, hI, hloop, nat_neg, tnc, c0, c1, c2, c3, c4]
     ·simp (maxSteps := 2000000) only [go_sem, seval, h1, h3, g1, g3, q1, q3, hF, hp, l2, hO, hI, hloop, nat_neg, tnc, c0, c1, c2, c3, c4]
   ·simp (maxSteps := 2000000) only [go_sem, seval, h1, h3, g1, g3, q1, q3, hF, hp, l2, hO, hI, hloop, nat_neg, tnc, c0, c1, c2]
end
end Go.Proofs.YtifckjhggamefaaDoor
