/- Rounds of package block's functions: Contains, splits, right$1, kids' search. No condition. -/
import Derived.Test.YtifckjhggamefaaDoorAt
import Derived.Test.YtifckjhggamefaaDoorPb
set_option linter.unusedSimpArgs false
set_option linter.unusedVariables false
set_option linter.unusedSectionVars false
namespace Go.Proofs.YtifckjhggamefaaDoor
open Go Go.Vx
set_option maxHeartbeats 4000000
set_option maxRecDepth 10000
section
variable {bx : List Box} {nr rows ors : List (List D)} {N F K L K' L' X : D} {i p l : Nat} {k a op n : Int} {v : Bool}
theorem right1_f (hK : K.oneC = true) (hL : L.oneC = true) : stepJ (ev cfg) cfg (.call 55 [.agg [I k, I n, I a, .dat K, .dat L]] bx) = some (.ret (B (k == 3)) none) := by
 simp (maxSteps := 2000000) only [go_sem, seval, hK, hL]
theorem kid_round {g : FuncId} {cap : List Nat} (hcap : (cap.all fun l => decide (l < bx.length)) = true) (hK : IsS 5 rows K) (hget : rows[i]? = some [dI k, dI n, dI a, K', L']) (hlt : i < rows.length) (hmax : rows.length < 9223372036854775808) (hk : K'.oneC = true) (hl : L'.oneC = true)
  (hcall : ev cfg (.call g (.agg [I k, I n, I a, .dat K', .dat L'] :: cap.map fun l => .ptr l 0) bx) = some (.ret (B v) none)) :
  stepJ (ev cfg) cfg (.loop 58 2 (q0 bx (sh58_2 (.dat K) (.clo g cap) (I rows.length) (I i)))) =
   if v = true then some (.loop .ret (q0 bx (se58_2 (I i))))
   else ev cfg (.loop 58 2 (q0 bx (sh58_2 (.dat K) (.clo g cap) (I rows.length) (I ((i + 1 : Nat) : Int))))) := by
 obtain ⟨w, h1, h2, h3⟩ := hK
 obtain rfl := isS_w h2 hget
 cases v <;> simp (maxSteps := 2000000) only [go_sem, seval, h1, h3, hk, hl, hcap, nat_lt hlt, nat_neg, tnc, hget, hcall, nat_succ hlt hmax]
theorem kid_end {g : FuncId} {cap : List Nat} (hcap : (cap.all fun l => decide (l < bx.length)) = true) (hK : K.oneC = true) {m : Nat} (hge : m <= i) :
  stepJ (ev cfg) cfg (.loop 58 2 (q0 bx (sh58_2 (.dat K) (.clo g cap) (I m) (I i)))) = some (.loop (.exit 0) (q0 bx (se58_2 .dead))) := by
 simp (maxSteps := 2000000) only [go_sem, seval, hcap, hK, nat_ge hge]
theorem kid_f {g : FuncId} {cap : List Nat} {y : Option Nat} (hcap : (cap.all fun l => decide (l < bx.length)) = true) (hK : IsS 5 rows K) 
  (hloop : ev cfg (.loop 58 2 (q0 bx (sh58_2 (.dat K) (.clo g cap) (I rows.length) (I 0)))) = some (match y with
   | some j => .loop .ret (q0 bx (se58_2 (I j)))
   | none => .loop (.exit 0) (q0 bx (se58_2 .dead)))) :
  stepJ (ev cfg) cfg (.call 58 [.dat K, .clo g cap] bx) = some (.ret (I (match y with | some j => (j : Int) | none => -1)) none) := by
 obtain ⟨w, h1, h2, h3⟩ := hK
 cases y <;> simp only at hloop <;> simp (maxSteps := 2000000) only [go_sem, seval, hcap, h1, h3, hloop]
theorem some_kid {g : FuncId} {cap : List Nat} {y : Int} (hcap : (cap.all fun l => decide (l < bx.length)) = true) (hK : K.oneC = true) (hc : ev cfg (.call 58 [.dat K, .clo g cap] bx) = some (.ret (I y) none)) :
  stepJ (ev cfg) cfg (.call 36 [.dat K, .clo g cap] bx) = some (.ret (B (decide (y >= 0))) none) := by
 simp (maxSteps := 2000000) only [go_sem, seval, hcap, hK, hc]
theorem splits_no {q kd m : Int} (hN : IsS 5 nr N) (hF : F.oneC = true) (h : (decide (q >= 0) && decide (q < (nr.length : Int))) = false) :
  stepJ (ev cfg) cfg (.call 56 [.agg [.dat N, .dat F], I q, I kd, I m] bx) = some (.ret (B false) none) := by
 obtain ⟨w, h1, h2, h3⟩ := hN
 cases c1 : decide (q >= 0)
 ·simp (maxSteps := 2000000) only [go_sem, seval, h1, h3, hF, c1]
 ·rw [c1, Bool.true_and] at h
  simp (maxSteps := 2000000) only [go_sem, seval, h1, h3, hF, c1, h]
theorem splits_go {kd m : Int} (hN : IsS 5 nr N) (hF : F.oneC = true) (hp : nr[p]? = some [dI k, dI a, dI op, dI n, K]) (hX : IsS 1 ors X) (hO : ∀ bx : List Box, ev cfg (.call 39 [.agg [.dat N, .dat F], I p] bx) = some (.ret (.dat X) none)) :
  stepJ (ev cfg) cfg (.call 56 [.agg [.dat N, .dat F], I p, I kd, I m] bx) = some (.ret (B (k == kd && (decide (m > 1) && (ors.length : Int) == m))) none) := by
 obtain ⟨w, h1, h2, h3⟩ := hN
 obtain rfl := isS_w h2 hp
 obtain ⟨w', g1, g2, g3⟩ := hX
 have l2 : p < nr.length := (gsi.1 hp).1
 have z1 : decide ((p : Int) >= 0) = true := dqt (by omega)
 have z2 : decide ((p : Int) < (nr.length : Int)) = true := dqt (by omega)
 cases c1 : (k == kd)
 ·simp (maxSteps := 2000000) only [go_sem, seval, h1, h3, hF, hp, l2, z1, z2, c1, nat_neg, tnc]
 ·cases c2 : decide (m > 1)
  ·simp (maxSteps := 2000000) only [go_sem, seval, h1, h3, hF, hp, l2, z1, z2, c1, c2, nat_neg, tnc]
  ·simp (maxSteps := 2000000) only [go_sem, seval, h1, h3, g1, g3, hF, hp, l2, z1, z2, c1, c2, hO, nat_neg, tnc]
end
set_option maxHeartbeats 8000000
section
variable {bx : List Box} {fr rows lr : List (List D)} {N F K L : D} {i : Nat} {k a n f t w ins outs : Int}
def badLk (nk nf : Nat) (f t w : Int) : Bool := decide (f < -1) || (decide (f >= (nk : Int)) || (decide (t < -1) || (decide (t >= (nk : Int)) || (decide (w < 0) || decide (w >= (nf : Int))))))
theorem blink_bad (hN : N.oneC = true) (hF : IsS 6 fr F) (hK : IsS 5 rows K) (hL : IsS 3 lr L) (hget : lr[i]? = some [dI f, dI t, dI w]) (hlt : i < lr.length) (hb : badLk rows.length fr.length f t w = true) :
  stepJ (ev cfg) cfg (.loop 57 3 (qs bx (sh57_3 (.ptr bx.length 0) (.ptr (bx.length + 1) 0) (I ins) (I outs) (.dat L) (I lr.length) (I i)) [[.dat N, .dat F], [I k, I n, I a, .dat K, .dat L]])) =
   some (.loop .ret (qs bx (se57_3 (.ptr (bx.length + 1) 0) (B false) (I ins) (I outs)) [[.dat N, .dat F], [I k, I n, I a, .dat K, .dat L]])) := by
 obtain ⟨w1, h1, h2, h3⟩ := hL
 obtain rfl := isS_w h2 hget
 obtain ⟨w2, g1, g2, g3⟩ := hF
 obtain ⟨w3, q1, q2, q3⟩ := hK
 unfold badLk at hb
 cases c1 : decide (f < -1)
 ·cases c2 : decide (f >= (rows.length : Int))
  ·cases c3 : decide (t < -1)
   ·cases c4 : decide (t >= (rows.length : Int))
    ·cases c5 : decide (w < 0)
     ·have c6 : decide (w >= (fr.length : Int)) = true := by simpa [c1, c2, c3, c4, c5] using hb
      simp (maxSteps := 2000000) only [go_sem, seval, h1, h3, g1, g3, q1, q3, hN, nat_lt hlt, nat_neg, tnc, hget, c1, c2, c3, c4, c5, c6]
     ·simp (maxSteps := 2000000) only [go_sem, seval, h1, h3, g1, g3, q1, q3, hN, nat_lt hlt, nat_neg, tnc, hget, c1, c2, c3, c4, c5]
    ·simp (maxSteps := 2000000) only [go_sem, seval, h1, h3, g1, g3, q1, q3, hN, nat_lt hlt, nat_neg, tnc, hget, c1, c2, c3, c4]
   ·simp (maxSteps := 2000000) only [go_sem, seval, h1, h3, g1, g3, q1, q3, hN, nat_lt hlt, nat_neg, tnc, hget, c1, c2, c3]
  ·simp (maxSteps := 2000000) only [go_sem, seval, h1, h3, g1, g3, q1, q3, hN, nat_lt hlt, nat_neg, tnc, hget, c1, c2]
 ·simp (maxSteps := 2000000) only [go_sem, seval, h1, h3, g1, g3, q1, q3, hN, nat_lt hlt, nat_neg, tnc, hget, c1]
end
section
variable {bx : List Box} {c : Box} {fr rs : List (List D)} {N F K : D} {i : Nat} {op n f t : Int} {e : Bool}
theorem routs_round0 {q : Int} (hF : IsS 6 fr F) (hc : c.all (cellLt (bx.length + 1)) = true) (hget : fr[i]? = some [dI f, dI t, .lit (.bool e), dI op, dI n, K]) (hlt : i < fr.length) (hmax : fr.length < 9223372036854775808) (hk : K.oneC = true) :
  stepJ (ev cfg) cfg (.loop 32 3 (qs bx (sh32_3 (I q) (.dat .nil) (.dat F) (I fr.length) (I i)) [c])) =
   ev cfg (.loop 32 3 (qs bx (sh32_3 (I q) ((if (f == q) = true then .own true 1 [[dI i]] else .dat .nil)) (.dat F) (I fr.length) (I ((i + 1 : Nat) : Int))) [c])) := by
 obtain ⟨w, h1, h2, h3⟩ := hF
 obtain rfl := isS_w h2 hget
 cases c0 : (f == q) <;> simp (maxSteps := 2000000) only [go_sem, seval, h1, h3, hk, hc, nat_lt hlt, nat_neg, tnc, hget, nat_succ hlt hmax, c0]
theorem routs_round1 {q : Int} (hF : IsS 6 fr F) (hc : c.all (cellLt (bx.length + 1)) = true) (hget : fr[i]? = some [dI f, dI t, .lit (.bool e), dI op, dI n, K]) (hlt : i < fr.length) (hmax : fr.length < 9223372036854775808) (hk : K.oneC = true) (hks : (rs.length + 1) * 8 <= 140737488355328) :
  stepJ (ev cfg) cfg (.loop 32 3 (qs bx (sh32_3 (I q) (.own true 1 rs) (.dat F) (I fr.length) (I i)) [c])) =
   ev cfg (.loop 32 3 (qs bx (sh32_3 (I q) ((.own true 1 (if (f == q) = true then rs ++ [[dI i]] else rs))) (.dat F) (I fr.length) (I ((i + 1 : Nat) : Int))) [c])) := by
 obtain ⟨w, h1, h2, h3⟩ := hF
 obtain rfl := isS_w h2 hget
 cases c0 : (f == q) <;> simp (maxSteps := 2000000) only [go_sem, seval, h1, h3, hk, hc, nat_lt hlt, nat_neg, tnc, hget, nat_succ hlt hmax, c0, hks]
theorem routs_end {q : Int} {m : Nat} (hF : F.oneC = true) (hc : c.all (cellLt (bx.length + 1)) = true) (hge : m <= i) :
  stepJ (ev cfg) cfg (.loop 32 3 (qs bx (sh32_3 (I q) (mkS 1 rs) (.dat F) (I m) (I i)) [c])) = some (.loop (.exit 0) (qs bx (se32_3 (mkS 1 rs)) [c])) := by
 cases rs <;> simp (maxSteps := 2000000) only [go_sem, seval, mkS, hF, nat_ge hge, hc]
theorem routs_f {q : Int} (hN : N.oneC = true) (hF : IsS 6 fr F)
  (hloop : ∀ c : Box, c.all (cellLt (bx.length + 1)) = true -> ev cfg (.loop 32 3 (qs bx (sh32_3 (I q) (.dat .nil) (.dat F) (I fr.length) (I 0)) [c])) = some (.loop (.exit 0) (qs bx (se32_3 (mkS 1 rs)) [c]))) :
  stepJ (ev cfg) cfg (.call 32 [.agg [.dat N, .dat F], I q] bx) = some (.ret (.dat (mkD 1 rs)) none) := by
 obtain ⟨w, h1, h2, h3⟩ := hF
 have hloop' := hloop [.dat N, .dat F] (by simp [cellLt])
 cases rs <;> simp only [mkS] at hloop' <;> simp (maxSteps := 2000000) only [go_sem, seval, mkD, h1, h3, hN, hloop']
end
section
end
section
end
section
end
section
variable {bx : List Box} {nr fr kr ors acc : List (List D)} {N F K L X K2 L2 : D} {i p l : Nat} {k nd a e q kd aa op m f tt op2 n2 t tk k2 nd2 a2 : Int} {v el : Bool} {ys zs : List Int}
theorem leafp_f (hN : IsS 5 nr N) (hF : F.oneC = true) (hl : l < bx.length) (hb : bx[l]? = some [.dat N, .dat F]) (hget : nr[p]? = some [dI kd, dI aa, dI op, dI m, K2]) (hc : ∀ bx : List Box, ev cfg (.call 29 [.dat (.sl 1 [[dI 3], [dI 4], [dI 8]]), I kd] bx) = some (.ret (B v) none)) :
  stepJ (ev cfg) cfg (.call 28 [I p, .ptr l 0] bx) = some (.ret (B (!v)) none) := by
 have hp : p < nr.length := (gsi.1 hget).1
 obtain ⟨w1, g1, g2, g3⟩ := hN
 obtain rfl := isS_w g2 hget
 simp (maxSteps := 2000000) only [go_sem, seval, g1, g3, hF, hl, hb, hget, hp, hc, nat_neg, tnc]
theorem leaves_err (hN : N.oneC = true) (hF : F.oneC = true) (hK : K.oneC = true) (hL : L.oneC = true) (hc : ∀ bx : List Box, ev cfg (.call 8 [.agg [.dat N, .dat F], .agg [I k, I nd, I a, .dat K, .dat L]] bx) = some (.ret (I e) none)) (he : (e != 0) = true) :
  stepJ (ev cfg) cfg (.call 11 [.agg [.dat N, .dat F], .agg [I k, I nd, I a, .dat K, .dat L]] bx) = some (.ret (.tup [.dat .nil, I e]) none) := by
 simp (maxSteps := 2000000) only [go_sem, seval, hN, hF, hK, hL, hc, he]
theorem leaves_nil (hN : N.oneC = true) (hF : F.oneC = true) (hK : K.oneC = true) (hL : L.oneC = true) (hc : ∀ bx : List Box, ev cfg (.call 8 [.agg [.dat N, .dat F], .agg [I k, I nd, I a, .dat K, .dat L]] bx) = some (.ret (I 0) none)) (hk : (k == 10) = false)
  (hn : ∀ bx : List Box, ev cfg (.call 20 [.agg [.dat N, .dat F], .agg [I k, I nd, I a, .dat K, .dat L]] bx) = some (.ret (.dat .nil) none)) :
  stepJ (ev cfg) cfg (.call 11 [.agg [.dat N, .dat F], .agg [I k, I nd, I a, .dat K, .dat L]] bx) = some (.ret (.tup [.dat .nil, I 0]) none) := by
 have z0 : ((0 : Int) != 0) = false := rfl
 simp (maxSteps := 2000000) only [go_sem, seval, hN, hF, hK, hL, hc, hk, hn, z0]
theorem leaves_own (hN : N.oneC = true) (hF : F.oneC = true) (hK : K.oneC = true) (hL : L.oneC = true) (hc : ∀ bx : List Box, ev cfg (.call 8 [.agg [.dat N, .dat F], .agg [I k, I nd, I a, .dat K, .dat L]] bx) = some (.ret (I 0) none)) (hk : (k == 10) = false)
  (hn : ∀ bx : List Box, ev cfg (.call 20 [.agg [.dat N, .dat F], .agg [I k, I nd, I a, .dat K, .dat L]] bx) = some (.ret (.own true 1 acc) none)) (hz : intRows acc = some zs) (hlen : zs.length < 4611686018427387904) (hne : zs ≠ [])
  (hd : delRows (ev cfg) 28 [bx.length] (bx ++ [[.dat N, .dat F], [I k, I nd, I a, .dat K, .dat L]]) zs = some ys) :
  stepJ (ev cfg) cfg (.call 11 [.agg [.dat N, .dat F], .agg [I k, I nd, I a, .dat K, .dat L]] bx) = some (.ret (.tup [.dat (.sl 1 (rowsOf ys)), I 0]) none) := by
 have z0 : ((0 : Int) != 0) = false := rfl
 simp (maxSteps := 2000000) only [go_sem, seval, hN, hF, hK, hL, hc, hk, hn, z0, hz, hlen, hne, hd]
theorem leaves_r0 (hN : N.oneC = true) (hF : F.oneC = true) (hK : K.oneC = true) (hL : L.oneC = true) (hlt : i < nr.length) (hmax : nr.length < 9223372036854775808) :
  stepJ (ev cfg) cfg (.loop 11 7 (qs bx (sh11_7 (.ptr bx.length 0) (.dat .nil) (I nr.length) (I i)) [[.dat N, .dat F], [I k, I nd, I a, .dat K, .dat L]])) = ev cfg (.loop 11 7 (qs bx (sh11_7 (.ptr bx.length 0) (.own true 1 [[dI i]]) (I nr.length) (I ((i + 1 : Nat) : Int))) [[.dat N, .dat F], [I k, I nd, I a, .dat K, .dat L]])) := by
 simp (maxSteps := 2000000) only [go_sem, seval, hN, hF, hK, hL, nat_lt hlt, nat_succ hlt hmax]
theorem leaves_r1 (hN : N.oneC = true) (hF : F.oneC = true) (hK : K.oneC = true) (hL : L.oneC = true) (hlt : i < nr.length) (hmax : nr.length < 9223372036854775808) (hks : (acc.length + 1) * 8 <= 140737488355328) :
  stepJ (ev cfg) cfg (.loop 11 7 (qs bx (sh11_7 (.ptr bx.length 0) (.own true 1 acc) (I nr.length) (I i)) [[.dat N, .dat F], [I k, I nd, I a, .dat K, .dat L]])) = ev cfg (.loop 11 7 (qs bx (sh11_7 (.ptr bx.length 0) (.own true 1 (acc ++ [[dI i]])) (I nr.length) (I ((i + 1 : Nat) : Int))) [[.dat N, .dat F], [I k, I nd, I a, .dat K, .dat L]])) := by
 simp (maxSteps := 2000000) only [go_sem, seval, hN, hF, hK, hL, nat_lt hlt, nat_succ hlt hmax, hks]
theorem leaves_rend (hN : N.oneC = true) (hF : F.oneC = true) (hK : K.oneC = true) (hL : L.oneC = true) {n : Nat} (hge : n <= i) :
  stepJ (ev cfg) cfg (.loop 11 7 (qs bx (sh11_7 (.ptr bx.length 0) (.own true 1 acc) (I n) (I i)) [[.dat N, .dat F], [I k, I nd, I a, .dat K, .dat L]])) = some (.loop (.exit 0) (qs bx (se11_7 (.ptr bx.length 0) (.own true 1 acc)) [[.dat N, .dat F], [I k, I nd, I a, .dat K, .dat L]])) := by
 simp (maxSteps := 2000000) only [go_sem, seval, hN, hF, hK, hL, nat_ge hge]
theorem leaves_rules (hN : IsS 5 nr N) (hF : F.oneC = true) (hK : K.oneC = true) (hL : L.oneC = true) (hc : ∀ bx : List Box, ev cfg (.call 8 [.agg [.dat N, .dat F], .agg [I 10, I nd, I a, .dat K, .dat L]] bx) = some (.ret (I 0) none))
  (hn : ∀ bx : List Box, ev cfg (.call 20 [.agg [.dat N, .dat F], .agg [I 10, I nd, I a, .dat K, .dat L]] bx) = some (.ret (.dat .nil) none))
  (hlp : ev cfg (.loop 11 7 (qs bx (sh11_7 (.ptr bx.length 0) (.dat .nil) (I nr.length) (I 0)) [[.dat N, .dat F], [I 10, I nd, I a, .dat K, .dat L]])) = some (.loop (.exit 0) (qs bx (se11_7 (.ptr bx.length 0) (.own true 1 acc)) [[.dat N, .dat F], [I 10, I nd, I a, .dat K, .dat L]])))
  (hz : intRows acc = some zs) (hlen : zs.length < 4611686018427387904) (hne : zs ≠ [])
  (hd : delRows (ev cfg) 28 [bx.length] (bx ++ [[.dat N, .dat F], [I 10, I nd, I a, .dat K, .dat L]]) zs = some ys) :
  stepJ (ev cfg) cfg (.call 11 [.agg [.dat N, .dat F], .agg [I 10, I nd, I a, .dat K, .dat L]] bx) = some (.ret (.tup [.dat (.sl 1 (rowsOf ys)), I 0]) none) := by
 have z0 : ((0 : Int) != 0) = false := rfl
 obtain ⟨w1, g1, g2, g3⟩ := hN
 simp (maxSteps := 2000000) only [go_sem, seval, g1, g3, hF, hK, hL, hc, hn, z0, hlp, hz, hlen, hne, hd]
theorem times_o (hF : IsS 6 fr F) (hN : N.oneC = true) (hK : K.oneC = true) (hL : L.oneC = true) (hget : ors[i]? = some [dI p]) (hX : IsS 1 ors X) (hflow : fr[p]? = some [dI f, dI tt, .lit (.bool el), dI op2, dI n2, K2]) (hlt : i < ors.length) (hmax : ors.length < 9223372036854775808) (ht : 0 <= t) (ht2 : t < 1000000000) :
  stepJ (ev cfg) cfg (.loop 15 7 (qs bx (sh15_7 (I q) (.ptr bx.length 0) (.ptr (bx.length + 1) 0) (I t) (.dat X) (I ors.length) (I i)) [[.dat N, .dat F], [I k, I nd, I a, .dat K, .dat L]])) = ev cfg (.loop 15 7 (qs bx (sh15_7 (I q) (.ptr bx.length 0) (.ptr (bx.length + 1) 0) (I (if (tt == q) = true then t + 1 else t)) (.dat X) (I ors.length) (I ((i + 1 : Nat) : Int))) [[.dat N, .dat F], [I k, I nd, I a, .dat K, .dat L]])) := by
 have hp : p < fr.length := (gsi.1 hflow).1
 have w0 : IntKind.wrap .i64 (t + 1) = t + 1 := wrap_lo (by omega) (by omega)
 obtain ⟨w1, g1, g2, g3⟩ := hF
 obtain rfl := isS_w g2 hflow
 obtain ⟨w2, q1, q2, q3⟩ := hX
 obtain rfl := isS_w q2 hget
 cases c : (tt == q)
 ·simp (maxSteps := 2000000) only [go_sem, seval, hN, g1, g3, q1, q3, hK, hL, nat_lt hlt, nat_succ hlt hmax, nat_neg, tnc, hget, hlt, hflow, hp, c]
 ·simp (maxSteps := 2000000) only [go_sem, seval, hN, g1, g3, q1, q3, hK, hL, nat_lt hlt, nat_succ hlt hmax, nat_neg, tnc, hget, hlt, hflow, hp, c, w0]
theorem times_oend (hF : F.oneC = true) (hN : N.oneC = true) (hK : K.oneC = true) (hL : L.oneC = true) (hX : X.oneC = true) {n : Nat} (hge : n <= i) :
  stepJ (ev cfg) cfg (.loop 15 7 (qs bx (sh15_7 (I q) (.ptr bx.length 0) (.ptr (bx.length + 1) 0) (I t) (.dat X) (I n) (I i)) [[.dat N, .dat F], [I k, I nd, I a, .dat K, .dat L]])) = some (.loop (.exit 0) (qs bx (se15_7 (I q) (.ptr bx.length 0) (.ptr (bx.length + 1) 0) (I t)) [[.dat N, .dat F], [I k, I nd, I a, .dat K, .dat L]])) := by
 simp (maxSteps := 2000000) only [go_sem, seval, hN, hF, hK, hL, hX, nat_ge hge]
theorem times_k (hF : F.oneC = true) (hN : N.oneC = true) (hK : IsS 5 kr K) (hL : L.oneC = true) (hget : kr[i]? = some [dI k2, dI nd2, dI a2, K2, L2]) (hK2 : K2.oneC = true) (hL2 : L2.oneC = true) (hlt : i < kr.length) (hmax : kr.length < 9223372036854775808)
  (hc : ∀ bx : List Box, ev cfg (.call 15 [.agg [.dat N, .dat F], .agg [I k2, I nd2, I a2, .dat K2, .dat L2], I q] bx) = some (.ret (I tk) none)) (ht : 0 <= t + tk) (ht2 : t + tk < 1000000000) :
  stepJ (ev cfg) cfg (.loop 15 13 (qs bx (sh15_13 (I q) (.ptr bx.length 0) (I t) (.dat K) (I kr.length) (I i)) [[.dat N, .dat F], [I k, I nd, I a, .dat K, .dat L]])) = ev cfg (.loop 15 13 (qs bx (sh15_13 (I q) (.ptr bx.length 0) (I (t + tk)) (.dat K) (I kr.length) (I ((i + 1 : Nat) : Int))) [[.dat N, .dat F], [I k, I nd, I a, .dat K, .dat L]])) := by
 have w0 : IntKind.wrap .i64 (t + tk) = t + tk := wrap_lo (by omega) (by omega)
 obtain ⟨w1, g1, g2, g3⟩ := hK
 obtain rfl := isS_w g2 hget
 simp (maxSteps := 2000000) only [go_sem, seval, hN, hF, g1, g3, hL, hK2, hL2, nat_lt hlt, nat_succ hlt hmax, nat_neg, tnc, hget, hlt, hc, w0]
theorem times_kend (hF : F.oneC = true) (hN : N.oneC = true) (hK : K.oneC = true) (hL : L.oneC = true) {n : Nat} (hge : n <= i) :
  stepJ (ev cfg) cfg (.loop 15 13 (qs bx (sh15_13 (I q) (.ptr bx.length 0) (I t) (.dat K) (I n) (I i)) [[.dat N, .dat F], [I k, I nd, I a, .dat K, .dat L]])) = some (.loop (.exit 2) (qs bx (se15_13 (I t)) [[.dat N, .dat F], [I k, I nd, I a, .dat K, .dat L]])) := by
 simp (maxSteps := 2000000) only [go_sem, seval, hN, hF, hK, hL, nat_ge hge]
theorem times_f (hF : F.oneC = true) (hN : N.oneC = true) (hK : IsS 5 kr K) (hL : L.oneC = true) (k6 : (k == 6) = false)
  (hlp : ev cfg (.loop 15 13 (qs bx (sh15_13 (I q) (.ptr bx.length 0) (I (if (((k == 2) || (decide (k >= 4) && decide (k <= 8))) && (nd == q)) = true then 1 else 0)) (.dat K) (I kr.length) (I 0)) [[.dat N, .dat F], [I k, I nd, I a, .dat K, .dat L]])) = some (.loop (.exit 2) (qs bx (se15_13 (I t)) [[.dat N, .dat F], [I k, I nd, I a, .dat K, .dat L]]))) :
  stepJ (ev cfg) cfg (.call 15 [.agg [.dat N, .dat F], .agg [I k, I nd, I a, .dat K, .dat L], I q] bx) = some (.ret (I t) none) := by
 obtain ⟨w1, g1, g2, g3⟩ := hK
 have w0 : IntKind.wrap .i64 (0 + 1) = 1 := rfl
 cases c0 : (k == 2)
 ·cases c1 : decide (k >= 4)
  ·simp only [c0, c1, Bool.false_or, Bool.false_and, Bool.false_eq_true, if_false] at hlp
   simp (maxSteps := 2000000) only [go_sem, seval, hN, hF, g1, g3, hL, k6, hlp, c0, c1]
  ·cases c2 : decide (k <= 8)
   ·simp only [c0, c1, c2, Bool.false_or, Bool.and_false, Bool.false_and, Bool.false_eq_true, if_false] at hlp
    simp (maxSteps := 2000000) only [go_sem, seval, hN, hF, g1, g3, hL, k6, hlp, c0, c1, c2]
   ·cases c3 : (nd == q)
    ·simp only [c3, Bool.and_false, Bool.false_eq_true, if_false] at hlp
     simp (maxSteps := 2000000) only [go_sem, seval, hN, hF, g1, g3, hL, k6, hlp, c0, c1, c2, c3]
    ·simp only [c0, c1, c2, c3, Bool.false_or, Bool.true_and, if_true] at hlp
     simp (maxSteps := 2000000) only [go_sem, seval, hN, hF, g1, g3, hL, k6, hlp, c0, c1, c2, c3, w0]
 ·cases c3 : (nd == q)
  ·simp only [c3, Bool.and_false, Bool.false_eq_true, if_false] at hlp
   simp (maxSteps := 2000000) only [go_sem, seval, hN, hF, g1, g3, hL, k6, hlp, c0, c3]
  ·simp only [c0, c3, Bool.true_or, Bool.true_and, if_true] at hlp
   simp (maxSteps := 2000000) only [go_sem, seval, hN, hF, g1, g3, hL, k6, hlp, c0, c3, w0]
theorem times_6 (hF : F.oneC = true) (hN : N.oneC = true) (hK : IsS 5 kr K) (hL : L.oneC = true) (hX : IsS 1 ors X) (hO : ∀ bx : List Box, ev cfg (.call 32 [.agg [.dat N, .dat F], I nd] bx) = some (.ret (.dat X) none))
  (hl7 : ev cfg (.loop 15 7 (qs bx (sh15_7 (I q) (.ptr bx.length 0) (.ptr (bx.length + 1) 0) (I (if (nd == q) = true then 1 else 0)) (.dat X) (I ors.length) (I 0)) [[.dat N, .dat F], [I 6, I nd, I a, .dat K, .dat L]])) = some (.loop (.exit 0) (qs bx (se15_7 (I q) (.ptr bx.length 0) (.ptr (bx.length + 1) 0) (I tk)) [[.dat N, .dat F], [I 6, I nd, I a, .dat K, .dat L]])))
  (hlp : ev cfg (.loop 15 13 (qs bx (sh15_13 (I q) (.ptr bx.length 0) (I tk) (.dat K) (I kr.length) (I 0)) [[.dat N, .dat F], [I 6, I nd, I a, .dat K, .dat L]])) = some (.loop (.exit 2) (qs bx (se15_13 (I t)) [[.dat N, .dat F], [I 6, I nd, I a, .dat K, .dat L]]))) :
  stepJ (ev cfg) cfg (.call 15 [.agg [.dat N, .dat F], .agg [I 6, I nd, I a, .dat K, .dat L], I q] bx) = some (.ret (I t) none) := by
 obtain ⟨w1, g1, g2, g3⟩ := hK
 obtain ⟨w2, q1, q2, q3⟩ := hX
 have w0 : IntKind.wrap .i64 (0 + 1) = 1 := rfl
 cases c3 : (nd == q)
 ·simp only [c3, Bool.false_eq_true, if_false] at hl7
  simp (maxSteps := 2000000) only [go_sem, seval, hN, hF, g1, g3, q1, q3, hL, hO, hl7, hlp, c3]
 ·simp only [c3, if_true] at hl7
  simp (maxSteps := 2000000) only [go_sem, seval, hN, hF, g1, g3, q1, q3, hL, hO, hl7, hlp, c3, w0]
end
section
variable {nr : List (List D)} {N F K L K2 L2 X1 X2 X3 M1 M2 : D} {k nd a k2 nd2 a2 x y g sz dp : Int} {sh : Bool} {xs1 xs2 xs3 : List (List D)}
theorem grows_end (hN : IsS 5 nr N) (hF : F.oneC = true) (hK : K.oneC = true) (hL : L.oneC = true) (hK2 : K2.oneC = true) (hL2 : L2.oneC = true) (hlg : ∀ bx : List Box, ev cfg (.call 5 [.agg [.dat N, .dat F]] bx) = some (.ret (B false) none)) (hb1 : ev cfg (.call 6 [.agg [I k, I nd, I a, .dat K, .dat L], .ptr 3 0, I 1] [[.dat N, .dat F], [I k, I nd, I a, .dat K, .dat L], [I k2, I nd2, I a2, .dat K2, .dat L2], [I 200]]) = some (.ret (B false) (some ⟨[[.dat N, .dat F], [I k, I nd, I a, .dat K, .dat L], [I k2, I nd2, I a2, .dat K2, .dat L2], [I x]], 3, false⟩))) (hb2 : ev cfg (.call 6 [.agg [I k2, I nd2, I a2, .dat K2, .dat L2], .ptr 4 0, I 1] [[.dat N, .dat F], [I k, I nd, I a, .dat K, .dat L], [I k2, I nd2, I a2, .dat K2, .dat L2], [I x], [I 200]]) = some (.ret (B false) (some ⟨[[.dat N, .dat F], [I k, I nd, I a, .dat K, .dat L], [I k2, I nd2, I a2, .dat K2, .dat L2], [I x], [I y]], 4, false⟩))) (k3 : (k == 3) = false) (k4 : (k2 == 3) = false) (hl1 : ∀ bx : List Box, ev cfg (.call 11 [.agg [.dat N, .dat F], .agg [I k, I nd, I a, .dat K, .dat L]] bx) = some (.ret (.tup [.dat X1, I 0]) none)) (hl2 : ∀ bx : List Box, ev cfg (.call 11 [.agg [.dat N, .dat F], .agg [I k2, I nd2, I a2, .dat K2, .dat L2]] bx) = some (.ret (.tup [.dat X2, I 0]) none)) (hl3 : ∀ bx : List Box, ev cfg (.call 11 [.agg [.dat N, .dat F], .agg [I 3, I 0, I 0, .dat (.sl 5 [[dI k, dI nd, dI a, K, L], [dI k2, dI nd2, dI a2, K2, L2]]), .dat .nil]] bx) = some (.ret (.tup [.dat X3, I g]) none)) (q1 : IsS 1 xs1 X1) (q2 : IsS 1 xs2 X2) (q3 : IsS 1 xs3 X3) (hsz : ∀ bx : List Box, ev cfg (.call 12 [.agg [I 3, I 0, I 0, .dat (.sl 5 [[dI k, dI nd, dI a, K, L], [dI k2, dI nd2, dI a2, K2, L2]]), .dat .nil]] bx) = some (.ret (I sz) none)) (href : ∀ bx : List Box, ev cfg (.call 14 [.agg [I 3, I 0, I 0, .dat (.sl 5 [[dI k, dI nd, dI a, K, L], [dI k2, dI nd2, dI a2, K2, L2]]), .dat .nil]] bx) = some (.ret (.agg [I 3, I 0, I 0, .dat M1, .dat M2]) none)) (hdp : ∀ bx : List Box, ev cfg (.call 13 [.agg [I 3, I 0, I 0, .dat M1, .dat M2]] bx) = some (.ret (I dp) none)) (oM1 : M1.oneC = true) (oM2 : M2.oneC = true) (hw : (decide (k >= 8) || (decide (k2 >= 8) || (decide (sz > 96) || decide (dp > 24)))) = false) (hlp : ev cfg (.loop 4 13 ⟨(sh4_13 (.ptr 0 0) (.ptr 1 0) (.ptr 2 0) (.dat X1) (.dat X2) (.dat X3) (I g) (B false) (I nr.length) (I 0)), [[.dat N, .dat F], [I k, I nd, I a, .dat K, .dat L], [I k2, I nd2, I a2, .dat K2, .dat L2], [I x], [I y], [I 3, I 0, I 0, .dat (.sl 5 [[dI k, dI nd, dI a, K, L], [dI k2, dI nd2, dI a2, K2, L2]]), .dat .nil]], 0, none, false⟩) = some (.loop (.exit 0) ⟨(se4_13 (.dat X1) (.dat X2) (.dat X3) (I g) (B sh)), [[.dat N, .dat F], [I k, I nd, I a, .dat K, .dat L], [I k2, I nd2, I a2, .dat K2, .dat L2], [I x], [I y], [I 3, I 0, I 0, .dat (.sl 5 [[dI k, dI nd, dI a, K, L], [dI k2, dI nd2, dI a2, K2, L2]]), .dat .nil]], 0, none, false⟩)) (hgs : ((g == 8) == sh) = true) (hfin : sh = false -> (g == 0) = true /\ ((xs3.length : Int) == (xs1.length : Int) + (xs2.length : Int)) = true /\ xs1.length + xs2.length < 1000000000) (ha : ∀ b0 b1 b2 b3 b4 b5 : Box, ev cfg (.call 7 [] [b0, b1, b2, b3, b4, b5]) = some (.ret (B true) none)) :
  stepJ (ev cfg) cfg (.call 4 [.agg [.dat N, .dat F], .agg [I k, I nd, I a, .dat K, .dat L], .agg [I k2, I nd2, I a2, .dat K2, .dat L2]] []) = some (.ret (B true) none) := by
 obtain ⟨w1, g1, g2, g3⟩ := hN
 obtain ⟨_, x1, _, y1⟩ := q1
 obtain ⟨_, x2, _, y2⟩ := q2
 obtain ⟨_, x3, _, y3⟩ := q3
 have z0 : ((0 : Int) != 0) = false := rfl
 simp only [Bool.or_eq_false_iff] at hw
 obtain ⟨c0, c1, c2, c3⟩ := hw
 cases sh with
 | true => simp (maxSteps := 2000000) only [go_sem, seval, x1, x2, x3, y1, y2, y3, hgs, g1, g3, hF, hK, hL, hK2, hL2, hlg, ha, hb1, hb2, k3, k4, hl1, hl2, hl3, hsz, href, hdp, oM1, oM2, z0, c0, c1, c2, c3, hlp]
 | false =>
  obtain ⟨hg0, hl, p3⟩ := hfin rfl
  have w0 : IntKind.wrap .i64 ((xs1.length : Int) + (xs2.length : Int)) = (xs1.length : Int) + (xs2.length : Int) := wrap_lo (by omega) (by omega)
  simp (maxSteps := 2000000) only [go_sem, seval, x1, x2, x3, y1, y2, y3, hgs, hg0, hl, w0, g1, g3, hF, hK, hL, hK2, hL2, hlg, ha, hb1, hb2, k3, k4, hl1, hl2, hl3, hsz, href, hdp, oM1, oM2, z0, c0, c1, c2, c3, hlp]
end
end Go.Proofs.YtifckjhggamefaaDoor
