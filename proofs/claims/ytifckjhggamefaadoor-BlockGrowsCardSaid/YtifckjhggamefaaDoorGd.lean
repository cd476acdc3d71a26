/- Rounds of package net's functions: linked, others. No condition. -/
import Derived.Test.YtifckjhggamefaaDoorAt
import Derived.Test.YtifckjhggamefaaDoorPb
set_option linter.unusedSimpArgs false
set_option linter.unusedVariables false
set_option linter.unusedSectionVars false
namespace Go.Proofs.YtifckjhggamefaaDoor
open Go Go.Vx
set_option maxHeartbeats 4000000
set_option maxRecDepth 10000
section
variable {bx : List Box} {nr ors irs : List (List D)} {N F X Y K2 : D} {p : Nat} {kd a op2 n2 el : Int} {cat : Bool}
theorem link_o (k1 : (kd == 1) = false) (k2 : (kd == 2) = false) (k7 : (kd == 7) = false) (k5 : (kd == 5) = false) (k6 : (kd == 6) = false) (hN : IsS 5 nr N) (hF : F.oneC = true) (hX : IsS 1 ors X) (hY : IsS 1 irs Y) (hp : nr[p]? = some [dI kd, dI a, dI op2, dI n2, K2])
  (hO : ∀ bx : List Box, ev cfg (.call 39 [.agg [.dat N, .dat F], I p] bx) = some (.ret (.dat X) none)) (hI : ∀ bx : List Box, ev cfg (.call 83 [.agg [.dat N, .dat F], I p] bx) = some (.ret (.dat Y) none))
  (hloop : ev cfg (.loop 67 6 (qs bx (sh67_6 (.ptr bx.length 0) (.dat X) (I irs.length) (I kd) (I 0) (B true) (.dat X) (I ors.length) (I 0)) [[.dat N, .dat F]])) =
   some (.loop (.exit 0) (qs bx (se67_6 (.dat X) (I irs.length) (I kd) (I el) (B cat)) [[.dat N, .dat F]]))) :
  stepJ (ev cfg) cfg (.call 67 [.agg [.dat N, .dat F], I p] bx) = some (.ret (B (((irs.length : Int) == 1) && ((ors.length : Int) == 1))) none) := by
 obtain ⟨w, h1, h2, h3⟩ := hN
 obtain rfl := isS_w h2 hp
 obtain ⟨w', g1, g2, g3⟩ := hX
 obtain ⟨w'', q1, q2, q3⟩ := hY
 have l2 : p < nr.length := (gsi.1 hp).1
 cases c0 : ((irs.length : Int) == 1) <;> cases c1 : ((ors.length : Int) == 1) <;> simp (maxSteps := 2000000) only [go_sem, seval, h1, h3, g1, g3, q1, q3, hF, hp, l2, hO, hI, hloop, nat_neg, tnc, c0, c1, k1, k2, k7, k5, k6]
end
section
variable {bx : List Box} {nr rs : List (List D)} {N F K2 : D} {p : Nat} {kd a op2 n2 : Int}
theorem third1_f {s z : Int} {l1 l2 l3 : Nat} {vl : Bool} (hN : IsS 5 nr N) (hF : F.oneC = true) (hp : nr[p]? = some [dI kd, dI a, dI op2, dI n2, K2]) (h1 : l1 < bx.length) (h2 : l2 < bx.length) (h3 : l3 < bx.length) (b1 : bx[l1]? = some [.dat N, .dat F]) (b2 : bx[l2]? = some [I s]) (b3 : bx[l3]? = some [I z])
  (hlk : ev cfg (.call 67 [.agg [.dat N, .dat F], I p] bx) = some (.ret (B vl) none)) :
  stepJ (ev cfg) cfg (.call 66 [I p, .ptr l1 0, .ptr l2 0, .ptr l3 0] bx) = some (.ret (B (!vl || ((kd == 1 && (p : Int) != s) || (kd == 2 && (p : Int) != z)))) none) := by
 obtain ⟨w, g1, g2, g3⟩ := hN
 obtain rfl := isS_w g2 hp
 have l2 : p < nr.length := (gsi.1 hp).1
 cases vl <;> cases c1 : (kd == 1) <;> cases c2 : ((p : Int) != s) <;> cases c3 : (kd == 2) <;> cases c4 : ((p : Int) != z) <;> simp (maxSteps := 2000000) only [go_sem, seval, g1, g3, hF, hp, l2, h1, h2, h3, b1, b2, b3, hlk, nat_neg, tnc, c1, c2, c3, c4]
theorem third_f0 {s z : Int} (hN : IsS 5 nr N) (hF : F.oneC = true) (hs : ∀ bx : List Box, ev cfg (.call 52 [.agg [.dat N, .dat F]] bx) = some (.ret (I s) none)) (hz : ∀ bx : List Box, ev cfg (.call 53 [.agg [.dat N, .dat F]] bx) = some (.ret (I z) none))
  (hpl : ev cfg (.call 45 [I 3, I nr.length, .clo 66 [bx.length, bx.length + 1, bx.length + 2]] (bx ++ [[.dat N, .dat F], [I s], [I z]])) = some (.ret (.dat .nil) none)) :
  stepJ (ev cfg) cfg (.call 50 [.agg [.dat N, .dat F]] bx) = some (.ret (if (decide (s < 0) || decide (z < 0)) = true then .own true 2 [[dI 3, dI nr.length]] else .dat .nil) none) := by
 obtain ⟨w, g1, g2, g3⟩ := hN
 cases c1 : decide (s < 0) <;> cases c2 : decide (z < 0) <;> simp (maxSteps := 2000000) only [go_sem, seval, g1, g3, hF, hs, hz, hpl, c1, c2]
theorem third_f1 {s z : Int} (hks : (rs.length + 1) * 16 <= 140737488355328) (hN : IsS 5 nr N) (hF : F.oneC = true) (hs : ∀ bx : List Box, ev cfg (.call 52 [.agg [.dat N, .dat F]] bx) = some (.ret (I s) none)) (hz : ∀ bx : List Box, ev cfg (.call 53 [.agg [.dat N, .dat F]] bx) = some (.ret (I z) none))
  (hpl : ev cfg (.call 45 [I 3, I nr.length, .clo 66 [bx.length, bx.length + 1, bx.length + 2]] (bx ++ [[.dat N, .dat F], [I s], [I z]])) = some (.ret (.own true 2 rs) none)) :
  stepJ (ev cfg) cfg (.call 50 [.agg [.dat N, .dat F]] bx) = some (.ret (.own true 2 (if (decide (s < 0) || decide (z < 0)) = true then rs ++ [[dI 3, dI nr.length]] else rs)) none) := by
 obtain ⟨w, g1, g2, g3⟩ := hN
 cases c1 : decide (s < 0) <;> cases c2 : decide (z < 0) <;> simp (maxSteps := 2000000) only [go_sem, seval, g1, g3, hF, hs, hz, hpl, c1, c2, hks]
end
def boolR (bs : List Bool) : List (List D) := bs.map fun b => [.lit (.bool b)]
def intR (zs : List Int) : List (List D) := zs.map fun z => [dI z]
section
variable {bx : List Box} {c : Box} {nr fr : List (List D)} {N F K : D} {i q m : Nat} {f t op n : Int} {e back : Bool} {sr tr : List (List D)}
theorem met_in {back : Bool} (hF : IsS 6 fr F) (hc : c.all (cellLt (bx.length + 1)) = true) (hget : fr[i]? = some [dI f, dI t, .lit (.bool e), dI op, dI n, K]) (hk : K.oneC = true) (hlt : i < fr.length) (hmax : fr.length < 9223372036854775808) (hks : (tr.length + 1) * 8 <= 140737488355328) :
  stepJ (ev cfg) cfg (.loop 51 9 (qs bx (sh51_9 (B back) (.ptr bx.length 0) (.own true 1 sr) (.own true 1 tr) (I q) (.dat F) (I fr.length) (I i)) [c])) =
   ev cfg (.loop 51 9 (qs bx (sh51_9 (B back) (.ptr bx.length 0) (.own true 1 sr) (.own true 1 (if back = true then (if (t == (q : Int)) = true then tr ++ [[dI f]] else tr) else if (f == (q : Int)) = true then tr ++ [[dI t]] else tr)) (I q) (.dat F) (I fr.length) (I ((i + 1 : Nat) : Int))) [c])) := by
 obtain ⟨w, h1, h2, h3⟩ := hF
 obtain rfl := isS_w h2 hget
 cases back
 ·cases c1 : (f == (q : Int)) <;> simp (maxSteps := 2000000) only [go_sem, seval, h1, h3, hk, nat_lt hlt, nat_neg, tnc, hget, hc, hks, c1, nat_succ hlt hmax]
 ·cases c1 : (t == (q : Int)) <;> simp (maxSteps := 2000000) only [go_sem, seval, h1, h3, hk, nat_lt hlt, nat_neg, tnc, hget, hc, hks, c1, nat_succ hlt hmax]
theorem met_ine (hF : F.oneC = true) (hc : c.all (cellLt (bx.length + 1)) = true) (hge : m <= i) :
  stepJ (ev cfg) cfg (.loop 51 9 (qs bx (sh51_9 (B back) (.ptr bx.length 0) (.own true 1 sr) (.own true 1 tr) (I q) (.dat F) (I m) (I i)) [c])) =
   some (.loop (.exit 2) (qs bx (se51_9 (B back) (.ptr bx.length 0) (.own true 1 sr) (.own true 1 tr)) [c])) := by
 simp (maxSteps := 2000000) only [go_sem, seval, hF, hc, nat_ge hge]
theorem met_skip (hN : N.oneC = true) (hF : F.oneC = true) (hs : sr[q]? = some [.lit (.bool true)]) :
  stepJ (ev cfg) cfg (.loop 51 3 (qs bx (sh51_3 (B back) (.ptr bx.length 0) (.own true 1 sr) (.own true 1 ([dI q] :: tr))) [[.dat N, .dat F]])) =
   ev cfg (.loop 51 3 (qs bx (sh51_3 (B back) (.ptr bx.length 0) (.own true 1 sr) (.own true 1 tr)) [[.dat N, .dat F]])) := by
 have hl : q < sr.length := (gsi.1 hs).1
 have h9 : decide (((tr.length + 1 : Nat) : Int) > 0) = true := dqt (by omega)
 have h8 : (0 < tr.length + 1) = True := by simp
 have h7 : ((1 : Int) <= ((tr.length + 1 : Nat) : Int)) = True := by simp; omega
 have h6 : (((tr.length + 1 : Nat) : Int) <= ((tr.length + 1 : Nat) : Int)) = True := by simp
 simp (maxSteps := 2000000) only [go_sem, seval, hN, hF, hs, hl, h9, h8, h7, h6, nat_neg, tnc, List.take_length]
theorem met_visit {fin : List (List D)} (hN : N.oneC = true) (hF : IsS 6 fr F) (hs : sr[q]? = some [.lit (.bool false)])
  (hloop : ev cfg (.loop 51 9 (qs bx (sh51_9 (B back) (.ptr bx.length 0) (.own true 1 (sr.set q [.lit (.bool true)])) (.own true 1 tr) (I q) (.dat F) (I fr.length) (I 0)) [[.dat N, .dat F]])) =
   some (.loop (.exit 2) (qs bx (se51_9 (B back) (.ptr bx.length 0) (.own true 1 (sr.set q [.lit (.bool true)])) (.own true 1 fin)) [[.dat N, .dat F]]))) :
  stepJ (ev cfg) cfg (.loop 51 3 (qs bx (sh51_3 (B back) (.ptr bx.length 0) (.own true 1 sr) (.own true 1 ([dI q] :: tr))) [[.dat N, .dat F]])) =
   ev cfg (.loop 51 3 (qs bx (sh51_3 (B back) (.ptr bx.length 0) (.own true 1 (sr.set q [.lit (.bool true)])) (.own true 1 fin)) [[.dat N, .dat F]])) := by
 obtain ⟨w, h1, h2, h3⟩ := hF
 have hl : q < sr.length := (gsi.1 hs).1
 have h9 : decide (((tr.length + 1 : Nat) : Int) > 0) = true := dqt (by omega)
 have h8 : (0 < tr.length + 1) = True := by simp
 have h7 : ((1 : Int) <= ((tr.length + 1 : Nat) : Int)) = True := by simp; omega
 have h6 : (((tr.length + 1 : Nat) : Int) <= ((tr.length + 1 : Nat) : Int)) = True := by simp
 simp (maxSteps := 2000000) only [go_sem, seval, hN, h1, h3, hs, hl, h9, h8, h7, h6, nat_neg, tnc, List.take_length, hloop]
theorem met_end (hN : N.oneC = true) (hF : F.oneC = true) :
  stepJ (ev cfg) cfg (.loop 51 3 (qs bx (sh51_3 (B back) (.ptr bx.length 0) (.own true 1 sr) (.own true 1 [])) [[.dat N, .dat F]])) =
   some (.loop (.exit 0) (qs bx (se51_3 (.own true 1 sr)) [[.dat N, .dat F]])) := by
 have h9 : decide (((0 : Nat) : Int) > 0) = false := by decide
 simp (maxSteps := 2000000) only [go_sem, seval, hN, hF, h9]
theorem met_f (hN : IsS 5 nr N) (hF : F.oneC = true) (hmax : nr.length <= 100000)
  (hloop : ev cfg (.loop 51 3 (qs bx (sh51_3 (B back) (.ptr bx.length 0) (.own true 1 (List.replicate nr.length [.lit (.bool false)])) (.own true 1 [[dI f]])) [[.dat N, .dat F]])) =
   some (.loop (.exit 0) (qs bx (se51_3 (.own true 1 sr)) [[.dat N, .dat F]]))) :
  stepJ (ev cfg) cfg (.call 51 [.agg [.dat N, .dat F], I f, B back] bx) = some (.ret (.dat (.sl 1 sr)) none) := by
 obtain ⟨w, h1, h2, h3⟩ := hN
 have h7 : ((0 : Int) <= (nr.length : Int)) = True := by simp
 have h8 : (nr.length <= 140737488355328) = True := by simp; omega
 have h8' : (nr.length * 1 <= 140737488355328) = True := by simp; omega
 simp (maxSteps := 2000000) only [go_sem, seval, h1, h3, hF, h7, h8, h8', tnc, Nat.mul_one, hloop]
end
section
variable {bx : List Box} {nr fr sr tr rs : List (List D)} {N F K : D} {p l l1 l2 : Nat} {k a f t op n s z : Int} {e v x y : Bool}
theorem all1_f (hN : IsS 5 nr N) (hF : F.oneC = true) (hl : l < bx.length) (hb : bx[l]? = some [.dat N, .dat F]) (hp : nr[p]? = some [dI k, dI a, dI op, dI n, K]) (hK : K.oneC = true) (hr : ∀ bx : List Box, ev cfg (.call 47 [.agg [I k, I a, I op, I n, .dat K]] bx) = some (.ret (B v) none)) :
  stepJ (ev cfg) cfg (.call 46 [I p, .ptr l 0] bx) = some (.ret (B (!v)) none) := by
 obtain ⟨w, h1, h2, h3⟩ := hN
 obtain rfl := isS_w h2 hp
 have l2 : p < nr.length := (gsi.1 hp).1
 simp (maxSteps := 2000000) only [go_sem, seval, h1, h3, hF, hl, hb, hp, l2, hK, hr, nat_neg, tnc]
theorem all2_f (hN : N.oneC = true) (hF : IsS 6 fr F) (hl : l < bx.length) (hb : bx[l]? = some [.dat N, .dat F]) (hp : fr[p]? = some [dI f, dI t, .lit (.bool e), dI op, dI n, K]) (hK : K.oneC = true) (hr : ∀ bx : List Box, ev cfg (.call 49 [.agg [.dat N, .dat F], .agg [I f, I t, B e, I op, I n, .dat K]] bx) = some (.ret (B v) none)) :
  stepJ (ev cfg) cfg (.call 48 [I p, .ptr l 0] bx) = some (.ret (B (!v)) none) := by
 obtain ⟨w, h1, h2, h3⟩ := hF
 obtain rfl := isS_w h2 hp
 have l2 : p < fr.length := (gsi.1 hp).1
 simp (maxSteps := 2000000) only [go_sem, seval, h1, h3, hN, hl, hb, hp, l2, hK, hr, nat_neg, tnc]
theorem all3_f (h1 : l1 < bx.length) (h2 : l2 < bx.length) (b1 : bx[l1]? = some [.dat (.sl 1 sr)]) (b2 : bx[l2]? = some [.dat (.sl 1 tr)]) (hs : sr[p]? = some [.lit (.bool x)]) (ht : tr[p]? = some [.lit (.bool y)]) :
  stepJ (ev cfg) cfg (.call 54 [I p, .ptr l1 0, .ptr l2 0] bx) = some (.ret (B (!x || !y)) none) := by
 have q1 : p < sr.length := (gsi.1 hs).1
 have q2 : p < tr.length := (gsi.1 ht).1
 cases x <;> simp (maxSteps := 2000000) only [go_sem, seval, h1, h2, b1, b2, hs, ht, q1, q2, nat_neg, tnc]
theorem all_big (hN : IsS 5 nr N) (hF : IsS 6 fr F) (hb : (decide ((nr.length : Int) > 24) || decide ((fr.length : Int) > 40)) = true) :
  stepJ (ev cfg) cfg (.call 33 [.agg [.dat N, .dat F]] bx) = some (.ret (.own true 2 [[dI 1, dI 0]]) none) := by
 obtain ⟨w, h1, h2, h3⟩ := hN
 obtain ⟨w, g1, g2, g3⟩ := hF
 cases c1 : decide ((nr.length : Int) > 24)
 ·rw [c1, Bool.false_or] at hb
  simp (maxSteps := 2000000) only [go_sem, seval, h1, h3, g1, g3, c1, hb]
 ·simp (maxSteps := 2000000) only [go_sem, seval, h1, h3, g1, g3, c1]
section
variable (hN : IsS 5 nr N) (hF : IsS 6 fr F) (c1 : decide ((nr.length : Int) > 24) = false) (c2 : decide ((fr.length : Int) > 40) = false) (hrs : decide ((rs.length : Int) > 0) = true)
include hN hF c1 c2
include hrs in
theorem all_1 (hpl : ev cfg (.call 45 [I 1, I nr.length, .clo 46 [bx.length]] (bx ++ [[.dat N, .dat F]])) = some (.ret (.own true 2 rs) none)) :
  stepJ (ev cfg) cfg (.call 33 [.agg [.dat N, .dat F]] bx) = some (.ret (.own true 2 rs) none) := by
 obtain ⟨w, h1, h2, h3⟩ := hN
 obtain ⟨w, g1, g2, g3⟩ := hF
 simp (maxSteps := 2000000) only [go_sem, seval, h1, h3, g1, g3, c1, c2, hpl, hrs]
include hrs in
theorem all_2 (hpl : ev cfg (.call 45 [I 1, I nr.length, .clo 46 [bx.length]] (bx ++ [[.dat N, .dat F]])) = some (.ret (.dat .nil) none))
  (hpl2 : ev cfg (.call 45 [I 2, I fr.length, .clo 48 [bx.length]] (bx ++ [[.dat N, .dat F]])) = some (.ret (.own true 2 rs) none)) :
  stepJ (ev cfg) cfg (.call 33 [.agg [.dat N, .dat F]] bx) = some (.ret (.own true 2 rs) none) := by
 obtain ⟨w, h1, h2, h3⟩ := hN
 obtain ⟨w, g1, g2, g3⟩ := hF
 have z0 : decide (((0 : Nat) : Int) > 0) = false := by decide
 simp (maxSteps := 2000000) only [go_sem, seval, h1, h3, g1, g3, c1, c2, hpl, hpl2, hrs, z0]
include hrs in
theorem all_3 (hpl : ev cfg (.call 45 [I 1, I nr.length, .clo 46 [bx.length]] (bx ++ [[.dat N, .dat F]])) = some (.ret (.dat .nil) none))
  (hpl2 : ev cfg (.call 45 [I 2, I fr.length, .clo 48 [bx.length]] (bx ++ [[.dat N, .dat F]])) = some (.ret (.dat .nil) none))
  (h3d : ∀ bx : List Box, ev cfg (.call 50 [.agg [.dat N, .dat F]] bx) = some (.ret (.own true 2 rs) none)) :
  stepJ (ev cfg) cfg (.call 33 [.agg [.dat N, .dat F]] bx) = some (.ret (.own true 2 rs) none) := by
 obtain ⟨w, h1, h2, h3⟩ := hN
 obtain ⟨w, g1, g2, g3⟩ := hF
 have z0 : decide (((0 : Nat) : Int) > 0) = false := by decide
 simp (maxSteps := 2000000) only [go_sem, seval, h1, h3, g1, g3, c1, c2, hpl, hpl2, h3d, hrs, z0]
theorem all_4 {Z : PV} (hZ : Z = mkS 2 rs) (hpl : ev cfg (.call 45 [I 1, I nr.length, .clo 46 [bx.length]] (bx ++ [[.dat N, .dat F]])) = some (.ret (.dat .nil) none))
  (hpl2 : ev cfg (.call 45 [I 2, I fr.length, .clo 48 [bx.length]] (bx ++ [[.dat N, .dat F]])) = some (.ret (.dat .nil) none))
  (h3d : ∀ bx : List Box, ev cfg (.call 50 [.agg [.dat N, .dat F]] bx) = some (.ret (.dat .nil) none))
  (hst : ∀ bx : List Box, ev cfg (.call 52 [.agg [.dat N, .dat F]] bx) = some (.ret (I s) none)) (hen : ∀ bx : List Box, ev cfg (.call 53 [.agg [.dat N, .dat F]] bx) = some (.ret (I z) none))
  (hm1 : ∀ bx : List Box, ev cfg (.call 51 [.agg [.dat N, .dat F], I s, B false] bx) = some (.ret (.dat (.sl 1 sr)) none)) (hm2 : ∀ bx : List Box, ev cfg (.call 51 [.agg [.dat N, .dat F], I z, B true] bx) = some (.ret (.dat (.sl 1 tr)) none))
  (hpl4 : ev cfg (.call 45 [I 4, I nr.length, .clo 54 [bx.length + 1, bx.length + 2]] (bx ++ [[.dat N, .dat F], [.dat (.sl 1 sr)], [.dat (.sl 1 tr)]])) = some (.ret Z none)) :
  stepJ (ev cfg) cfg (.call 33 [.agg [.dat N, .dat F]] bx) = some (.ret Z none) := by
 obtain ⟨w, h1, h2, h3⟩ := hN
 obtain ⟨w, g1, g2, g3⟩ := hF
 subst hZ
 have z0 : decide (((0 : Nat) : Int) > 0) = false := by decide
 cases rs <;> simp only [mkS] at hpl4 ⊢ <;> simp (maxSteps := 2000000) only [go_sem, seval, h1, h3, g1, g3, c1, c2, hpl, hpl2, h3d, hst, hen, hm1, hm2, hpl4, z0]
end
theorem check_0 (hN : N.oneC = true) (hF : F.oneC = true) (hall : ∀ bx : List Box, ev cfg (.call 33 [.agg [.dat N, .dat F]] bx) = some (.ret (.dat .nil) none)) :
  stepJ (ev cfg) cfg (.call 17 [.agg [.dat N, .dat F]] bx) = some (.ret (.tup [I 0, I 0]) none) := by
 have z0 : decide (((0 : Nat) : Int) > 0) = false := by decide
 simp (maxSteps := 2000000) only [go_sem, seval, hN, hF, hall, z0]
theorem check_1 {r q : Int} (hN : N.oneC = true) (hF : F.oneC = true) (hall : ∀ bx : List Box, ev cfg (.call 33 [.agg [.dat N, .dat F]] bx) = some (.ret (.own true 2 ([dI r, dI q] :: rs)) none)) :
  stepJ (ev cfg) cfg (.call 17 [.agg [.dat N, .dat F]] bx) = some (.ret (.tup [I r, I q]) none) := by
 have h9 : decide (((rs.length + 1 : Nat) : Int) > 0) = true := dqt (by omega)
 have h8 : (0 < rs.length + 1) = True := by simp
 simp (maxSteps := 2000000) only [go_sem, seval, hN, hF, hall, h9, h8]
end
set_option maxHeartbeats 8000000
section
variable {bx : List Box} {c : Box} {rows lr : List (List D)} {K L K' L' : D} {i l : Nat} {k a n : Int} {tt : Bool}
theorem eachc_round {g : FuncId} {cap : List Nat} {u : Box} (hcap : (cap.all fun l => decide (l < bx.length + 1)) = true) (hK : IsS 5 rows K) (hl : l < bx.length) (hc : c.all (cellLt (bx.length + 1)) = true) (hget : rows[i]? = some [dI k, dI n, dI a, K', L']) (hlt : i < rows.length) (hmax : rows.length < 9223372036854775808) (hk : K'.oneC = true) (hL : L'.oneC = true)
  (lo : Option Nat) (hlo : lo = none ∨ lo = some l) (tt : Bool)
  (hcall : ∀ r : Box, ev cfg (.call 30 [.agg [I k, I n, I a, .dat K', .dat L'], .clo g cap] (bx ++ [c, r])) = some (.ret (.tup []) (if tt = true then some ⟨bx.set l u ++ [c, r], l, false⟩ else none))) :
  stepJ (ev cfg) cfg (.loop 30 3 ⟨(sh30_3 (.clo g cap) (.dat K) (I rows.length) (I i)), bx ++ [c], bx.length, lo, false⟩) =
   ev cfg (.loop 30 3 ⟨(sh30_3 (.clo g cap) (.dat K) (I rows.length) (I ((i + 1 : Nat) : Int))), (if tt = true then bx.set l u else bx) ++ [c], bx.length, (if tt = true then some l else lo), false⟩) := by
 obtain ⟨w, h1, h2, h3⟩ := hK
 obtain rfl := isS_w h2 hget
 cases tt <;> simp only [if_true, if_false, Bool.false_eq_true] at hcall <;> rcases hlo with rfl | rfl <;> simp (maxSteps := 2000000) only [go_sem, seval, h1, h3, hk, hL, nat_lt hlt, nat_neg, tnc, hget, hcall, hc, hl, hcap, nat_succ hlt hmax, Nat.min_self]
theorem eachc_end {g : FuncId} {cap : List Nat} {m : Nat} (hcap : (cap.all fun l => decide (l < bx.length + 1)) = true) (hc : c.all (cellLt (bx.length + 1)) = true) (hge : m <= i) (lo : Option Nat) (hK : K.oneC = true) :
  stepJ (ev cfg) cfg (.loop 30 3 ⟨(sh30_3 (.clo g cap) (.dat K) (I m) (I i)), bx ++ [c], bx.length, lo, false⟩) = some (.loop (.exit 0) ⟨(se30_3), bx ++ [c], bx.length, lo, false⟩) := by
 simp (maxSteps := 2000000) only [go_sem, seval, nat_ge hge, hc, hK, hcap]
theorem eachc_f {g : FuncId} {cap : List Nat} {u u2 : Box} (t1 t2 : Bool) (hcap : (cap.all fun l => decide (l < bx.length + 1)) = true) (hK : IsS 5 rows K) (hL : IsS 3 lr L) (hl : l < bx.length)
  (hg : ∀ r : Box, ev cfg (.call g (.agg [I k, I n, I a, .dat K, .dat L] :: cap.map fun l => .ptr l 0) (bx ++ [r])) = some (.ret (.tup []) (if t1 = true then some ⟨bx.set l u ++ [r], l, false⟩ else none)))
  (hloop : ∀ c : Box, c.all (cellLt (bx.length + 1)) = true -> ev cfg (.loop 30 3 ⟨(sh30_3 (.clo g cap) (.dat K) (I rows.length) (I 0)), (if t1 = true then bx.set l u else bx) ++ [c], bx.length, (if t1 = true then some l else none), false⟩) =
   some (.loop (.exit 0) ⟨(se30_3), (if t2 = true then bx.set l u2 else bx) ++ [c], bx.length, (if t2 = true then some l else none), false⟩)) :
  stepJ (ev cfg) cfg (.call 30 [.agg [I k, I n, I a, .dat K, .dat L], .clo g cap] bx) = some (.ret (.tup []) (if t2 = true then some ⟨bx.set l u2, l, false⟩ else none)) := by
 obtain ⟨w, h1, h2, h3⟩ := hK
 obtain ⟨wl, l1, l2, l3⟩ := hL
 have hloop' := hloop [I k, I n, I a, .dat K, .dat L] (by simp [cellLt])
 cases t1 <;> simp only [if_true, if_false, Bool.false_eq_true] at hg hloop' <;> cases t2 <;> simp only [if_true, if_false, Bool.false_eq_true] at hloop' <;> simp (maxSteps := 2000000) only [go_sem, seval, h1, h3, l1, l3, hl, hcap, hg, hloop']
end
section
variable {bx : List Box} {c : Box} {fr ors acc acc2 : List (List D)} {N F K L X : D} {i j l l0 : Nat} {k a n f t op2 n2 : Int} {e : Bool} {K2 : D}
theorem nodes1_round0 (hF : IsS 6 fr F) (hN : N.oneC = true) (hX : IsS 1 ors X) (hl0 : l0 < bx.length) (hl : l < bx.length) (b0 : bx[l0]? = some [.dat N, .dat F]) (hc : c.all (cellLt (bx.length + 1)) = true) (hget : ors[i]? = some [dI j]) (hj : fr[j]? = some [dI f, dI t, .lit (.bool e), dI op2, dI n2, K2]) (hlt : i < ors.length) (hmax : ors.length < 9223372036854775808) (lo : Option Nat) (hlo : lo = none ∨ lo = some l) (b1 : bx[l]? = some [.dat .nil]) :
  stepJ (ev cfg) cfg (.loop 38 9 ⟨(sh38_9 (.ptr l0 0) (.ptr l 0) (.ptr bx.length 0) (.dat X) (I ors.length) (I i)), bx ++ [c], bx.length, lo, false⟩) =
   ev cfg (.loop 38 9 ⟨(sh38_9 (.ptr l0 0) (.ptr l 0) (.ptr bx.length 0) (.dat X) (I ors.length) (I ((i + 1 : Nat) : Int))), bx.set l [.own true 1 [[dI t]]] ++ [c], bx.length, some l, false⟩) := by
 obtain ⟨w, g1, g2, g3⟩ := hF
 obtain rfl := isS_w g2 hj
 obtain ⟨w, q1, q2, q3⟩ := hX
 obtain rfl := isS_w q2 hget
 have lj : j < fr.length := (gsi.1 hj).1
 rcases hlo with rfl | rfl <;> simp (maxSteps := 2000000) only [go_sem, seval, g1, g3, q1, q3, hN, hget, hj, lj, hl0, hl, b0, b1, hc, nat_lt hlt, nat_neg, tnc, nat_succ hlt hmax, Nat.min_self]
theorem nodes1_round1 (hF : IsS 6 fr F) (hN : N.oneC = true) (hX : IsS 1 ors X) (hl0 : l0 < bx.length) (hl : l < bx.length) (b0 : bx[l0]? = some [.dat N, .dat F]) (hc : c.all (cellLt (bx.length + 1)) = true) (hget : ors[i]? = some [dI j]) (hj : fr[j]? = some [dI f, dI t, .lit (.bool e), dI op2, dI n2, K2]) (hlt : i < ors.length) (hmax : ors.length < 9223372036854775808) (lo : Option Nat) (hlo : lo = none ∨ lo = some l) (hks : (acc.length + 1) * 8 <= 140737488355328) (b1 : bx[l]? = some [.own true 1 acc]) :
  stepJ (ev cfg) cfg (.loop 38 9 ⟨(sh38_9 (.ptr l0 0) (.ptr l 0) (.ptr bx.length 0) (.dat X) (I ors.length) (I i)), bx ++ [c], bx.length, lo, false⟩) =
   ev cfg (.loop 38 9 ⟨(sh38_9 (.ptr l0 0) (.ptr l 0) (.ptr bx.length 0) (.dat X) (I ors.length) (I ((i + 1 : Nat) : Int))), bx.set l [.own true 1 (acc ++ [[dI t]])] ++ [c], bx.length, some l, false⟩) := by
 obtain ⟨w, g1, g2, g3⟩ := hF
 obtain rfl := isS_w g2 hj
 obtain ⟨w, q1, q2, q3⟩ := hX
 obtain rfl := isS_w q2 hget
 have lj : j < fr.length := (gsi.1 hj).1
 rcases hlo with rfl | rfl <;> simp (maxSteps := 2000000) only [go_sem, seval, g1, g3, q1, q3, hN, hget, hj, lj, hl0, hl, b0, b1, hc, nat_lt hlt, nat_neg, tnc, nat_succ hlt hmax, Nat.min_self, hks]
theorem nodes1_end {m : Nat} (hX : X.oneC = true) (hl0 : l0 < bx.length) (hl : l < bx.length) (hc : c.all (cellLt (bx.length + 1)) = true) (hge : m <= i) (lo : Option Nat) :
  stepJ (ev cfg) cfg (.loop 38 9 ⟨(sh38_9 (.ptr l0 0) (.ptr l 0) (.ptr bx.length 0) (.dat X) (I m) (I i)), bx ++ [c], bx.length, lo, false⟩) = some (.loop (.exit 3) ⟨(se38_9 (.ptr l 0) (.ptr bx.length 0)), bx ++ [c], bx.length, lo, false⟩) := by
 simp (maxSteps := 2000000) only [go_sem, seval, hX, hl0, hl, hc, nat_ge hge]
theorem nodes1_k2_0 (hK : K.oneC = true) (hL : L.oneC = true) (hl0 : l0 < bx.length) (hl : l < bx.length) (b1 : bx[l]? = some [.dat .nil]) :
  stepJ (ev cfg) cfg (.call 38 [.agg [I 2, I n, I a, .dat K, .dat L], .ptr l0 0, .ptr l 0] bx) = some (.ret (.tup []) (some ⟨bx.set l [.own true 1 [[dI n]]], l, false⟩)) := by
 simp (maxSteps := 2000000) only [go_sem, seval, hK, hL, hl0, hl, b1]
theorem nodes1_k2_1 (hK : K.oneC = true) (hL : L.oneC = true) (hl0 : l0 < bx.length) (hl : l < bx.length) (hks : (acc.length + 1) * 8 <= 140737488355328) (b1 : bx[l]? = some [.own true 1 acc]) :
  stepJ (ev cfg) cfg (.call 38 [.agg [I 2, I n, I a, .dat K, .dat L], .ptr l0 0, .ptr l 0] bx) = some (.ret (.tup []) (some ⟨bx.set l [.own true 1 (acc ++ [[dI n]])], l, false⟩)) := by
 simp (maxSteps := 2000000) only [go_sem, seval, hK, hL, hl0, hl, b1, hks]
theorem nodes1_k4_0 (hK : K.oneC = true) (hL : L.oneC = true) (hl0 : l0 < bx.length) (hl : l < bx.length) (b1 : bx[l]? = some [.dat .nil]) :
  stepJ (ev cfg) cfg (.call 38 [.agg [I 4, I n, I a, .dat K, .dat L], .ptr l0 0, .ptr l 0] bx) = some (.ret (.tup []) (some ⟨bx.set l [.own true 1 [[dI n]]], l, false⟩)) := by
 simp (maxSteps := 2000000) only [go_sem, seval, hK, hL, hl0, hl, b1]
theorem nodes1_k4_1 (hK : K.oneC = true) (hL : L.oneC = true) (hl0 : l0 < bx.length) (hl : l < bx.length) (hks : (acc.length + 1) * 8 <= 140737488355328) (b1 : bx[l]? = some [.own true 1 acc]) :
  stepJ (ev cfg) cfg (.call 38 [.agg [I 4, I n, I a, .dat K, .dat L], .ptr l0 0, .ptr l 0] bx) = some (.ret (.tup []) (some ⟨bx.set l [.own true 1 (acc ++ [[dI n]])], l, false⟩)) := by
 simp (maxSteps := 2000000) only [go_sem, seval, hK, hL, hl0, hl, b1, hks]
theorem nodes1_k5_0 (hK : K.oneC = true) (hL : L.oneC = true) (hl0 : l0 < bx.length) (hl : l < bx.length) (b1 : bx[l]? = some [.dat .nil]) :
  stepJ (ev cfg) cfg (.call 38 [.agg [I 5, I n, I a, .dat K, .dat L], .ptr l0 0, .ptr l 0] bx) = some (.ret (.tup []) (some ⟨bx.set l [.own true 1 [[dI n]]], l, false⟩)) := by
 simp (maxSteps := 2000000) only [go_sem, seval, hK, hL, hl0, hl, b1]
theorem nodes1_k5_1 (hK : K.oneC = true) (hL : L.oneC = true) (hl0 : l0 < bx.length) (hl : l < bx.length) (hks : (acc.length + 1) * 8 <= 140737488355328) (b1 : bx[l]? = some [.own true 1 acc]) :
  stepJ (ev cfg) cfg (.call 38 [.agg [I 5, I n, I a, .dat K, .dat L], .ptr l0 0, .ptr l 0] bx) = some (.ret (.tup []) (some ⟨bx.set l [.own true 1 (acc ++ [[dI n]])], l, false⟩)) := by
 simp (maxSteps := 2000000) only [go_sem, seval, hK, hL, hl0, hl, b1, hks]
theorem nodes1_k7_0 (hK : K.oneC = true) (hL : L.oneC = true) (hl0 : l0 < bx.length) (hl : l < bx.length) (b1 : bx[l]? = some [.dat .nil]) :
  stepJ (ev cfg) cfg (.call 38 [.agg [I 7, I n, I a, .dat K, .dat L], .ptr l0 0, .ptr l 0] bx) = some (.ret (.tup []) (some ⟨bx.set l [.own true 1 [[dI n]]], l, false⟩)) := by
 simp (maxSteps := 2000000) only [go_sem, seval, hK, hL, hl0, hl, b1]
theorem nodes1_k7_1 (hK : K.oneC = true) (hL : L.oneC = true) (hl0 : l0 < bx.length) (hl : l < bx.length) (hks : (acc.length + 1) * 8 <= 140737488355328) (b1 : bx[l]? = some [.own true 1 acc]) :
  stepJ (ev cfg) cfg (.call 38 [.agg [I 7, I n, I a, .dat K, .dat L], .ptr l0 0, .ptr l 0] bx) = some (.ret (.tup []) (some ⟨bx.set l [.own true 1 (acc ++ [[dI n]])], l, false⟩)) := by
 simp (maxSteps := 2000000) only [go_sem, seval, hK, hL, hl0, hl, b1, hks]
theorem nodes1_k8_0 (hK : K.oneC = true) (hL : L.oneC = true) (hl0 : l0 < bx.length) (hl : l < bx.length) (b1 : bx[l]? = some [.dat .nil]) :
  stepJ (ev cfg) cfg (.call 38 [.agg [I 8, I n, I a, .dat K, .dat L], .ptr l0 0, .ptr l 0] bx) = some (.ret (.tup []) (some ⟨bx.set l [.own true 1 [[dI n]]], l, false⟩)) := by
 simp (maxSteps := 2000000) only [go_sem, seval, hK, hL, hl0, hl, b1]
theorem nodes1_k8_1 (hK : K.oneC = true) (hL : L.oneC = true) (hl0 : l0 < bx.length) (hl : l < bx.length) (hks : (acc.length + 1) * 8 <= 140737488355328) (b1 : bx[l]? = some [.own true 1 acc]) :
  stepJ (ev cfg) cfg (.call 38 [.agg [I 8, I n, I a, .dat K, .dat L], .ptr l0 0, .ptr l 0] bx) = some (.ret (.tup []) (some ⟨bx.set l [.own true 1 (acc ++ [[dI n]])], l, false⟩)) := by
 simp (maxSteps := 2000000) only [go_sem, seval, hK, hL, hl0, hl, b1, hks]
theorem nodes1_o (hK : K.oneC = true) (hL : L.oneC = true) (hl0 : l0 < bx.length) (hl : l < bx.length) (k6 : (k == 6) = false) (k2 : (k == 2) = false) (k4 : (k == 4) = false) (k5 : (k == 5) = false) (k7 : (k == 7) = false) (k8 : (k == 8) = false) :
  stepJ (ev cfg) cfg (.call 38 [.agg [I k, I n, I a, .dat K, .dat L], .ptr l0 0, .ptr l 0] bx) = some (.ret (.tup []) none) := by
 simp (maxSteps := 2000000) only [go_sem, seval, hK, hL, hl0, hl, k6, k2, k4, k5, k7, k8]
theorem nodes1_k6_0 (hF : F.oneC = true) (hN : N.oneC = true) (hX : IsS 1 ors X) (hK : K.oneC = true) (hL : L.oneC = true) (hl0 : l0 < bx.length) (hl : l < bx.length) (b0 : bx[l0]? = some [.dat N, .dat F]) (b1 : bx[l]? = some [.dat .nil])
  (hO : ∀ bx : List Box, ev cfg (.call 39 [.agg [.dat N, .dat F], I n] bx) = some (.ret (.dat X) none))
  (hloop : ∀ c : Box, c.all (cellLt (bx.length + 1)) = true -> ev cfg (.loop 38 9 (qs bx (sh38_9 (.ptr l0 0) (.ptr l 0) (.ptr bx.length 0) (.dat X) (I ors.length) (I 0)) [c])) = some (.loop (.exit 3) (qs bx (se38_9 (.ptr l 0) (.ptr bx.length 0)) [c]))) :
  stepJ (ev cfg) cfg (.call 38 [.agg [I 6, I n, I a, .dat K, .dat L], .ptr l0 0, .ptr l 0] bx) = some (.ret (.tup []) (some ⟨bx.set l [.own true 1 [[dI n]]], l, false⟩)) := by
 obtain ⟨w, q1, q2, q3⟩ := hX
 have hloop' := hloop [I 6, I n, I a, .dat K, .dat L] (by simp [cellLt])
 simp (maxSteps := 2000000) only [go_sem, seval, q1, q3, hF, hN, hK, hL, hl0, hl, b0, b1, hO, hloop']
theorem nodes1_k6_1 (hF : F.oneC = true) (hN : N.oneC = true) (hX : IsS 1 ors X) (hK : K.oneC = true) (hL : L.oneC = true) (hl0 : l0 < bx.length) (hl : l < bx.length) (hks : (acc.length + 1) * 8 <= 140737488355328) (b0 : bx[l0]? = some [.dat N, .dat F]) (b1 : bx[l]? = some [.own true 1 acc])
  (hO : ∀ bx : List Box, ev cfg (.call 39 [.agg [.dat N, .dat F], I n] bx) = some (.ret (.dat X) none))
  (hloop : ∀ c : Box, c.all (cellLt (bx.length + 1)) = true -> ev cfg (.loop 38 9 (qs bx (sh38_9 (.ptr l0 0) (.ptr l 0) (.ptr bx.length 0) (.dat X) (I ors.length) (I 0)) [c])) = some (.loop (.exit 3) (qs bx (se38_9 (.ptr l 0) (.ptr bx.length 0)) [c]))) :
  stepJ (ev cfg) cfg (.call 38 [.agg [I 6, I n, I a, .dat K, .dat L], .ptr l0 0, .ptr l 0] bx) = some (.ret (.tup []) (some ⟨bx.set l [.own true 1 (acc ++ [[dI n]])], l, false⟩)) := by
 obtain ⟨w, q1, q2, q3⟩ := hX
 have hloop' := hloop [I 6, I n, I a, .dat K, .dat L] (by simp [cellLt])
 simp (maxSteps := 2000000) only [go_sem, seval, q1, q3, hF, hN, hK, hL, hl0, hl, b0, b1, hO, hloop', hks]
theorem nodes1_k6_2 {u : PV} (hF : F.oneC = true) (hN : N.oneC = true) (hX : IsS 1 ors X) (hK : K.oneC = true) (hL : L.oneC = true) (hl0 : l0 < bx.length) (hl : l < bx.length) (hks : (acc2.length + 1) * 8 <= 140737488355328) (b0 : bx[l0]? = some [.dat N, .dat F]) (b1 : bx[l]? = some [u])
  (hO : ∀ bx : List Box, ev cfg (.call 39 [.agg [.dat N, .dat F], I n] bx) = some (.ret (.dat X) none))
  (hloop : ∀ c : Box, c.all (cellLt (bx.length + 1)) = true -> ev cfg (.loop 38 9 (qs bx (sh38_9 (.ptr l0 0) (.ptr l 0) (.ptr bx.length 0) (.dat X) (I ors.length) (I 0)) [c])) = some (.loop (.exit 3) ⟨(se38_9 (.ptr l 0) (.ptr bx.length 0)), bx.set l [.own true 1 acc2] ++ [c], bx.length, some l, false⟩)) :
  stepJ (ev cfg) cfg (.call 38 [.agg [I 6, I n, I a, .dat K, .dat L], .ptr l0 0, .ptr l 0] bx) = some (.ret (.tup []) (some ⟨bx.set l [.own true 1 (acc2 ++ [[dI n]])], l, false⟩)) := by
 obtain ⟨w, q1, q2, q3⟩ := hX
 have hloop' := hloop [I 6, I n, I a, .dat K, .dat L] (by simp [cellLt])
 simp (maxSteps := 2000000) only [go_sem, seval, q1, q3, hF, hN, hK, hL, hl0, hl, b0, b1, hO, hloop', hks]
theorem nodes_f0 (hK : K.oneC = true) (hL : L.oneC = true) (hF : F.oneC = true) (hN : N.oneC = true)
  (he : ev cfg (.call 30 [.agg [I k, I n, I a, .dat K, .dat L], .clo 38 [bx.length, bx.length + 2]] (bx ++ [[.dat N, .dat F], [I k, I n, I a, .dat K, .dat L], [.dat .nil]])) = some (.ret (.tup []) none)) :
  stepJ (ev cfg) cfg (.call 20 [.agg [.dat N, .dat F], .agg [I k, I n, I a, .dat K, .dat L]] bx) = some (.ret (.dat .nil) none) := by
 simp (maxSteps := 2000000) only [go_sem, seval, hK, hL, hF, hN, he]
theorem nodes_f1 {zs : List Int} (hz : intRows acc = some zs) (hzl : zs.length < 4611686018427387904) (hK : K.oneC = true) (hL : L.oneC = true) (hF : F.oneC = true) (hN : N.oneC = true)
  (he : ev cfg (.call 30 [.agg [I k, I n, I a, .dat K, .dat L], .clo 38 [bx.length, bx.length + 2]] (bx ++ [[.dat N, .dat F], [I k, I n, I a, .dat K, .dat L], [.dat .nil]])) = some (.ret (.tup []) (some ⟨bx ++ [[.dat N, .dat F], [I k, I n, I a, .dat K, .dat L], [.own true 1 acc]], bx.length + 2, false⟩))) :
  stepJ (ev cfg) cfg (.call 20 [.agg [.dat N, .dat F], .agg [I k, I n, I a, .dat K, .dat L]] bx) = some (.ret (.own true 1 (rowsOf (sortI zs))) none) := by
 simp (maxSteps := 2000000) only [go_sem, seval, hK, hL, hF, hN, he, runHook, ownPlace, hz, hzl]
end
end Go.Proofs.YtifckjhggamefaaDoor
