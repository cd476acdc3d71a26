/- Rounds of the blocks' functions: the conversion, the texts' outsides. No condition. -/
import Derived.Test.YtifckjhggamefaaDoorAt
import Derived.Test.YtifckjhggamefaaDoorPa
set_option linter.unusedSimpArgs false
set_option linter.unusedVariables false
set_option linter.unusedSectionVars false
namespace Go.Proofs.YtifckjhggamefaaDoor
open Go Go.Vx
set_option maxHeartbeats 4000000
set_option maxRecDepth 10000
section
variable {bx : List Box} {c : Box} {rows : List (List D)} {K L : D} {lr : List (List D)} {i : Nat} {k n a : Int} {K' L' : D}
theorem r12 {M N : D} {z : Box} {k0 n0 a0 : Int} {ks : List (List D)} (hK : IsS 5 rows K) (hc : c.all (cellLt (bx.length + 3)) = true) (hz : z.all (cellLt (bx.length + 3)) = true) (hget : rows[i]? = some [dI k, dI n, dI a, K', L']) (hlt : i < rows.length) (hmax : rows.length < 9223372036854775808) (hk : K'.oneC = true) (hL : L'.oneC = true) (hM : M.oneC = true) (hN : N.oneC = true)
  (hks : (ks.length + 1) * 72 <= 140737488355328)
  (hcall : ∀ bx : List Box, ev cfg (.call 14 [.agg [I k, I n, I a, .dat K', .dat L']] bx) = some (.ret (.agg [I k, I n, I a, .dat M, .dat N]) none)) :
  stepJ (ev cfg) cfg (.loop 14 3 (qs bx (sh14_3 (.ptr bx.length 0) (.ptr (bx.length + 1) 0) (.ptr (bx.length + 2) 0) (.dat K) (I rows.length) (I i)) [c, z, [I k0, I n0, I a0, .own true 5 ks, .dat .nil]])) =
   ev cfg (.loop 14 3 (qs bx (sh14_3 (.ptr bx.length 0) (.ptr (bx.length + 1) 0) (.ptr (bx.length + 2) 0) (.dat K) (I rows.length) (I ((i + 1 : Nat) : Int))) [c, z, [I k0, I n0, I a0, .own true 5 (ks ++ [[dI k, dI n, dI a, M, N]]), .dat .nil]])) := by
 obtain ⟨w, h1, h2, h3⟩ := hK
 obtain rfl := isS_w h2 hget
 simp (maxSteps := 2000000) only [go_sem, seval, h1, h3, hk, hL, hM, hN, nat_lt hlt, nat_neg, tnc, hget, hcall, hc, hz, hks, nat_succ hlt hmax, Nat.min_self]
theorem r12n {M N : D} {z : Box} {k0 n0 a0 : Int} (hK : IsS 5 rows K) (hc : c.all (cellLt (bx.length + 3)) = true) (hz : z.all (cellLt (bx.length + 3)) = true) (hget : rows[i]? = some [dI k, dI n, dI a, K', L']) (hlt : i < rows.length) (hmax : rows.length < 9223372036854775808) (hk : K'.oneC = true) (hL : L'.oneC = true) (hM : M.oneC = true) (hN : N.oneC = true)
  (hcall : ∀ bx : List Box, ev cfg (.call 14 [.agg [I k, I n, I a, .dat K', .dat L']] bx) = some (.ret (.agg [I k, I n, I a, .dat M, .dat N]) none)) :
  stepJ (ev cfg) cfg (.loop 14 3 (qs bx (sh14_3 (.ptr bx.length 0) (.ptr (bx.length + 1) 0) (.ptr (bx.length + 2) 0) (.dat K) (I rows.length) (I i)) [c, z, [I k0, I n0, I a0, .dat .nil, .dat .nil]])) =
   ev cfg (.loop 14 3 (qs bx (sh14_3 (.ptr bx.length 0) (.ptr (bx.length + 1) 0) (.ptr (bx.length + 2) 0) (.dat K) (I rows.length) (I ((i + 1 : Nat) : Int))) [c, z, [I k0, I n0, I a0, .own true 5 [[dI k, dI n, dI a, M, N]], .dat .nil]])) := by
 obtain ⟨w, h1, h2, h3⟩ := hK
 obtain rfl := isS_w h2 hget
 simp (maxSteps := 2000000) only [go_sem, seval, h1, h3, hk, hL, hM, hN, nat_lt hlt, nat_neg, tnc, hget, hcall, hc, hz, nat_succ hlt hmax, Nat.min_self]
theorem e12 {z : Box} {k0 n0 a0 : Int} {Y : PV} {n i : Nat} (hc : c.all (cellLt (bx.length + 3)) = true) (hz : z.all (cellLt (bx.length + 3)) = true) (hy : cellLt (bx.length + 3) Y = true) (hge : n <= i) :
  stepJ (ev cfg) cfg (.loop 14 3 (qs bx (sh14_3 (.ptr bx.length 0) (.ptr (bx.length + 1) 0) (.ptr (bx.length + 2) 0) (.dat K) (I n) (I i)) [c, z, [I k0, I n0, I a0, Y, .dat .nil]])) =
   some (.loop (.exit 0) (qs bx (se14_3 (.ptr bx.length 0) (.ptr (bx.length + 1) 0) (.ptr (bx.length + 2) 0)) [c, z, [I k0, I n0, I a0, Y, .dat .nil]])) := by
 simp (maxSteps := 2000000) only [go_sem, seval, nat_ge hge, hc, hz, hy]
theorem r12b {f t w : Int} {z : Box} {k0 n0 a0 : Int} {Y : PV} {ls : List (List D)} (hL : IsS 3 lr L) (hc : c.all (cellLt (bx.length + 3)) = true) (hz : z.all (cellLt (bx.length + 3)) = true) (hy : cellLt (bx.length + 3) Y = true) (hget : lr[i]? = some [dI f, dI t, dI w]) (hlt : i < lr.length) (hmax : lr.length < 9223372036854775808) 
  (hls : (ls.length + 1) * 24 <= 140737488355328) :
  stepJ (ev cfg) cfg (.loop 14 8 (qs bx (sh14_8 (.ptr (bx.length + 1) 0) (.ptr (bx.length + 2) 0) (.dat L) (I lr.length) (I i)) [c, z, [I k0, I n0, I a0, Y, .own true 3 ls]])) =
   ev cfg (.loop 14 8 (qs bx (sh14_8 (.ptr (bx.length + 1) 0) (.ptr (bx.length + 2) 0) (.dat L) (I lr.length) (I ((i + 1 : Nat) : Int))) [c, z, [I k0, I n0, I a0, Y, .own true 3 (ls ++ [[dI f, dI t, dI w]])]])) := by
 obtain ⟨ww, h1, h2, h3⟩ := hL
 obtain rfl := isS_w h2 hget
 simp (maxSteps := 2000000) only [go_sem, seval, h1, h3, nat_lt hlt, nat_neg, tnc, hget, hc, hz, hy, hls, nat_succ hlt hmax, Nat.min_self]
theorem r12bn {f t w : Int} {z : Box} {k0 n0 a0 : Int} {Y : PV} (hL : IsS 3 lr L) (hc : c.all (cellLt (bx.length + 3)) = true) (hz : z.all (cellLt (bx.length + 3)) = true) (hy : cellLt (bx.length + 3) Y = true) (hget : lr[i]? = some [dI f, dI t, dI w]) (hlt : i < lr.length) (hmax : lr.length < 9223372036854775808) :
  stepJ (ev cfg) cfg (.loop 14 8 (qs bx (sh14_8 (.ptr (bx.length + 1) 0) (.ptr (bx.length + 2) 0) (.dat L) (I lr.length) (I i)) [c, z, [I k0, I n0, I a0, Y, .dat .nil]])) =
   ev cfg (.loop 14 8 (qs bx (sh14_8 (.ptr (bx.length + 1) 0) (.ptr (bx.length + 2) 0) (.dat L) (I lr.length) (I ((i + 1 : Nat) : Int))) [c, z, [I k0, I n0, I a0, Y, .own true 3 [[dI f, dI t, dI w]]]])) := by
 obtain ⟨ww, h1, h2, h3⟩ := hL
 obtain rfl := isS_w h2 hget
 simp (maxSteps := 2000000) only [go_sem, seval, h1, h3, nat_lt hlt, nat_neg, tnc, hget, hc, hz, hy, nat_succ hlt hmax, Nat.min_self]
theorem e12b {z : Box} {k0 n0 a0 : Int} {Y Z : PV} {n i : Nat} (hc : c.all (cellLt (bx.length + 3)) = true) (hz : z.all (cellLt (bx.length + 3)) = true) (hy : cellLt (bx.length + 3) Y = true) (hy2 : cellLt (bx.length + 3) Z = true) (hge : n <= i) :
  stepJ (ev cfg) cfg (.loop 14 8 (qs bx (sh14_8 (.ptr (bx.length + 1) 0) (.ptr (bx.length + 2) 0) (.dat L) (I n) (I i)) [c, z, [I k0, I n0, I a0, Y, Z]])) =
   some (.loop (.exit 2) (qs bx (se14_8 (.ptr (bx.length + 1) 0) (.ptr (bx.length + 2) 0)) [c, z, [I k0, I n0, I a0, Y, Z]])) := by
 simp (maxSteps := 2000000) only [go_sem, seval, nat_ge hge, hc, hz, hy, hy2]
def mkS (k : Nat) : List (List D) -> PV
 | [] => .dat .nil
 | xs => .own true k xs
def mkD (k : Nat) : List (List D) -> D
 | [] => .nil
 | xs => .sl k xs
theorem mkD_one (k : Nat) (xs : List (List D)) : (mkD k xs).oneC = true := by cases xs <;> rfl
theorem f12 {ks ls : List (List D)} (hK : IsS 5 rows K) (hL : IsS 3 lr L)
  (hloop : ∀ c z : Box, c.all (cellLt (bx.length + 3)) = true -> z.all (cellLt (bx.length + 3)) = true -> ev cfg (.loop 14 3 (qs bx (sh14_3 (.ptr bx.length 0) (.ptr (bx.length + 1) 0) (.ptr (bx.length + 2) 0) (.dat K) (I rows.length) (I 0)) [c, z, [I k, I n, I a, .dat .nil, .dat .nil]])) =
   some (.loop (.exit 0) (qs bx (se14_3 (.ptr bx.length 0) (.ptr (bx.length + 1) 0) (.ptr (bx.length + 2) 0)) [c, z, [I k, I n, I a, mkS 5 ks, .dat .nil]])))
  (hloop2 : ∀ c z : Box, c.all (cellLt (bx.length + 3)) = true -> z.all (cellLt (bx.length + 3)) = true -> ev cfg (.loop 14 8 (qs bx (sh14_8 (.ptr (bx.length + 1) 0) (.ptr (bx.length + 2) 0) (.dat L) (I lr.length) (I 0)) [c, z, [I k, I n, I a, mkS 5 ks, .dat .nil]])) =
   some (.loop (.exit 2) (qs bx (se14_8 (.ptr (bx.length + 1) 0) (.ptr (bx.length + 2) 0)) [c, z, [I k, I n, I a, mkS 5 ks, mkS 3 ls]]))) :
  stepJ (ev cfg) cfg (.call 14 [.agg [I k, I n, I a, .dat K, .dat L]] bx) = some (.ret (.agg [I k, I n, I a, .dat (mkD 5 ks), .dat (mkD 3 ls)]) none) := by
 obtain ⟨w, h1, h2, h3⟩ := hK
 obtain ⟨wl, l1, l2, l3⟩ := hL
 have hl1 := hloop [I k, I n, I a, .dat K, .dat L] [I 0, I 0, I 0, .dat .nil, .dat .nil] (by simp [cellLt]) (by simp [cellLt])
 have hl2 := hloop2 [I k, I n, I a, .dat K, .dat L] [I 0, I 0, I 0, .dat .nil, .dat .nil] (by simp [cellLt]) (by simp [cellLt])
 cases ks <;> cases ls <;> simp only [mkS] at hl1 hl2 <;> simp (maxSteps := 2000000) only [go_sem, seval, h1, h3, l1, l3, hl1, hl2, mkD]
end
end Go.Proofs.YtifckjhggamefaaDoor
