/- Rounds of the terms' functions: large, deep, shaped, typed. No condition. -/
import Derived.Test.YtifckjhggamefaaDoorAt
import Derived.Test.YtifckjhggamefaaDoorPa
set_option linter.unusedSimpArgs false
set_option linter.unusedVariables false
set_option linter.unusedSectionVars false
namespace Go.Proofs.YtifckjhggamefaaDoor
open Go Go.Vx
set_option maxHeartbeats 4000000
set_option maxRecDepth 10000
section
variable {bx : List Box} {c : Box} {rows : List (List D)} {K : D} {i : Nat} {op n : Int} {K' : D}
def idxI : Option Nat -> Int
 | some j => j
 | none => -1
theorem r84 {g : FuncId} {cap : List Nat} {b : Bool} (hK : IsS 3 rows K) (hget : rows[i]? = some [dI op, dI n, K']) (hlt : i < rows.length) (hmax : rows.length < 9223372036854775808) (hcap : cap.all (fun l => decide (l < bx.length)) = true)
  (hcall : ev cfg (.call g ([.agg [I op, I n, .dat K']] ++ cap.map fun l => .ptr l 0) bx) = some (.ret (B b) none)) :
  stepJ (ev cfg) cfg (.loop 100 2 (q0 bx (sh100_2 (.dat K) (.clo g cap) (I rows.length) (I i)))) =
   if b = true then some (.loop .ret (q0 bx (se100_2 (I i))))
   else ev cfg (.loop 100 2 (q0 bx (sh100_2 (.dat K) (.clo g cap) (I rows.length) (I ((i + 1 : Nat) : Int))))) := by
 obtain ⟨w, h1, h2, h3⟩ := hK
 obtain rfl := isS_w h2 hget
 simp only [List.cons_append, List.nil_append] at hcall
 cases b <;> simp (maxSteps := 2000000) only [go_sem, seval, h1, h3, nat_lt hlt, nat_neg, tnc, hget, hcall, hcap, nat_succ hlt hmax, Nat.min_self, List.take_length, Nat.le_refl, Nat.sub_self, List.drop_length]
theorem e84 {g : FuncId} {cap : List Nat} {n : Nat} (hcap : cap.all (fun l => decide (l < bx.length)) = true) (hge : n <= i) :
  stepJ (ev cfg) cfg (.loop 100 2 (q0 bx (sh100_2 (.dat K) (.clo g cap) (I n) (I i)))) = some (.loop (.exit 0) (q0 bx (se100_2 .dead))) := by
 simp (maxSteps := 2000000) only [go_sem, seval, nat_ge hge, hcap, List.take_length, Nat.le_refl, Nat.sub_self, List.drop_length]
theorem f84 {g : FuncId} {cap : List Nat} {r : Option Nat} (hK : IsS 3 rows K)
  (hloop : ev cfg (.loop 100 2 (q0 bx (sh100_2 (.dat K) (.clo g cap) (I rows.length) (I 0)))) =
   some (match r with | some j => .loop .ret (q0 bx (se100_2 (I j))) | none => .loop (.exit 0) (q0 bx (se100_2 .dead)))) :
  stepJ (ev cfg) cfg (.call 100 [.dat K, .clo g cap] bx) = some (.ret (I (idxI r)) none) := by
 obtain ⟨w, h1, h2, h3⟩ := hK
 cases r <;> simp only at hloop <;> simp (maxSteps := 2000000) only [go_sem, seval, h1, h3, hloop, idxI]
theorem f63 {g : FuncId} {cap : List Nat} {x : Int} (hK : IsS 3 rows K) (h : ev cfg (.call 100 [.dat K, .clo g cap] bx) = some (.ret (I x) none)) :
  stepJ (ev cfg) cfg (.call 96 [.dat K, .clo g cap] bx) = some (.ret (B (decide (x >= 0))) none) := by
 obtain ⟨w, h1, h2, h3⟩ := hK
 simp (maxSteps := 2000000) only [go_sem, seval, h1, h3, h]
theorem f61 {d : Int} {b : Bool} (hK : IsS 3 rows K) (h : ∀ c : Box, ev cfg (.call 96 [.dat K, .clo 98 [bx.length + 1]] (bx ++ [c, [I d]])) = some (.ret (B b) none)) :
  stepJ (ev cfg) cfg (.call 94 [.agg [I op, I n, .dat K], I d] bx) = some (.ret (B (decide (d > 24) || b)) none) := by
 obtain ⟨w, h1, h2, h3⟩ := hK
 cases c1 : decide (d > 24) <;> simp (maxSteps := 2000000) only [go_sem, seval, h1, h3, h, c1]
theorem f82 {l : Nat} {d : Int} {b : Bool} (hK : IsS 3 rows K) (hl : l < bx.length) (hb : bx[l]? = some [I d]) (hd : IntKind.wrap .i64 (d + 1) = d + 1) (h : ∀ bx : List Box, ev cfg (.call 94 [.agg [I op, I n, .dat K], I (d + 1)] bx) = some (.ret (B b) none)) :
  stepJ (ev cfg) cfg (.call 98 [.agg [I op, I n, .dat K], .ptr l 0] bx) = some (.ret (B b) none) := by
 obtain ⟨w, h1, h2, h3⟩ := hK
 simp (maxSteps := 2000000) only [go_sem, seval, h1, h3, h, hl, hb, hd]
end
noncomputable def wordsD : List D := (cfg.glob 1).getD []
theorem gw : cfg.glob 1 = some wordsD := rfl
def bsL (l : List UInt8) : ByteArray := ⟨l.toArray⟩
structure Wd (op : Int) : Prop where
 neg : (op < 0) = False
 lt : (op.toNat < 15) = True
 row : (wordsD.drop (op.toNat * 4)).take 4 = [.lit (.string (bsL (wordL op))), dI (arity op), dI (tyOf (asked op)), dI (tyOf (truth op))]
 len : (op.toNat * 4 + 4 <= wordsD.length) = True
 r0 : wordsD[op.toNat * 4]? = some (.lit (.string (bsL (wordL op))))
 r1 : wordsD[op.toNat * 4 + 1]? = some (dI (arity op))
theorem wd {op : Int} (h : okOp op = true) : Wd op := by
 rcases okOp_cases h with rfl | rfl | rfl | rfl | rfl | rfl | rfl | rfl | rfl | rfl | rfl | rfl <;>
  exact ⟨eq_false (by decide), eq_true (by decide), rfl, eq_true (by decide), rfl, rfl⟩
section
variable {bx : List Box} {c : Box} {rows : List (List D)} {K : D} {op n : Int}
theorem f62_1 {kl : Nat} (hK : IsS 3 rows K) (hrl : rows.length = kl) :
  stepJ (ev cfg) cfg (.call 95 [.agg [I 1, I n, .dat K]] bx) = some (.ret (B ((kl : Int) == 0 && decide (n >= 0) && decide (n <= 1099511627776))) none) := by
 obtain ⟨w, h1, h2, h3⟩ := hK
 cases c1 : ((kl : Int) == 0) <;> cases c2 : decide (n >= 0) <;> simp (maxSteps := 2000000) only [go_sem, seval, h1, h3, hrl, c1, c2]
theorem f62_2 {kl : Nat} (hK : IsS 3 rows K) (hrl : rows.length = kl) :
  stepJ (ev cfg) cfg (.call 95 [.agg [I 2, I n, .dat K]] bx) = some (.ret (B ((kl : Int) == 0 && decide (n >= 0) && decide (n < 4))) none) := by
 obtain ⟨w, h1, h2, h3⟩ := hK
 cases c1 : ((kl : Int) == 0) <;> cases c2 : decide (n >= 0) <;> simp (maxSteps := 2000000) only [go_sem, seval, h1, h3, hrl, c1, c2]
theorem f62_no (hK : IsS 3 rows K) (h1 : (op == 1) = false) (h2 : (op == 2) = false) (h : (decide (op < 3) || decide (op > 14) || n != 0) = true) :
  stepJ (ev cfg) cfg (.call 95 [.agg [I op, I n, .dat K]] bx) = some (.ret (B false) none) := by
 obtain ⟨w, k1, k2, k3⟩ := hK
 cases c1 : decide (op < 3)
 ·cases c2 : decide (op > 14)
  ·rw [c1, c2] at h
   simp only [Bool.false_or] at h
   simp (maxSteps := 2000000) only [go_sem, seval, k1, k3, h1, h2, c1, c2, h]
  ·simp (maxSteps := 2000000) only [go_sem, seval, k1, k3, h1, h2, c1, c2]
 ·simp (maxSteps := 2000000) only [go_sem, seval, k1, k3, h1, h2, c1]
theorem f62_op {kl : Nat} {b : Bool} (hK : IsS 3 rows K) (hrl : rows.length = kl) (h1 : (op == 1) = false) (h2 : (op == 2) = false) (c1 : decide (op < 3) = false) (c2 : decide (op > 14) = false) (c3 : (n != 0) = false) (W : Wd op)
  (h : ∀ bx : List Box, ev cfg (.call 96 [.dat K, .clo 99 []] bx) = some (.ret (B b) none)) :
  stepJ (ev cfg) cfg (.call 95 [.agg [I op, I n, .dat K]] bx) = some (.ret (B (!((kl : Int) != (arity op : Int)) && !b)) none) := by
 obtain ⟨w, k1, k2, k3⟩ := hK
 obtain ⟨w1, w2, w3, w4, w5, w6⟩ := W
 cases c4 : ((kl : Int) != (arity op : Int)) <;> simp (maxSteps := 2000000) only [go_sem, seval, k1, k3, h1, h2, c1, c2, c3, gw, w1, w2, w6, hrl, c4, h]
theorem f83 {b : Bool} (hK : IsS 3 rows K) (h : ∀ bx : List Box, ev cfg (.call 95 [.agg [I op, I n, .dat K]] bx) = some (.ret (B b) none)) :
  stepJ (ev cfg) cfg (.call 99 [.agg [I op, I n, .dat K]] bx) = some (.ret (B (!b)) none) := by
 obtain ⟨w, k1, k2, k3⟩ := hK
 simp (maxSteps := 2000000) only [go_sem, seval, k1, k3, h]
theorem f44_leaf (hK : IsS 3 rows K) (h : (op == 1 || op == 2) = true) : stepJ (ev cfg) cfg (.call 91 [.agg [I op, I n, .dat K]] bx) = some (.ret (I 1) none) := by
 obtain ⟨w, k1, k2, k3⟩ := hK
 cases c1 : (op == 1)
 ·rw [c1, Bool.false_or] at h
  simp (maxSteps := 2000000) only [go_sem, seval, k1, k3, c1, h]
 ·simp (maxSteps := 2000000) only [go_sem, seval, k1, k3, c1]
theorem f44_op {b : Bool} (hK : IsS 3 rows K) (h1 : (op == 1) = false) (h2 : (op == 2) = false) (W : Wd op)
  (h : ∀ c : Box, ev cfg (.call 96 [.dat K, .clo 97 [bx.length + 1]] (bx ++ [c, [S (bsL (wordL op)), I (arity op), I (tyOf (asked op)), I (tyOf (truth op))]])) = some (.ret (B b) none)) :
  stepJ (ev cfg) cfg (.call 91 [.agg [I op, I n, .dat K]] bx) = some (.ret (I (if b = true then 0 else tyOf (truth op))) none) := by
 obtain ⟨w, k1, k2, k3⟩ := hK
 obtain ⟨w1, w2, w3, w4, w5, w6⟩ := W
 cases b <;> simp (maxSteps := 2000000) only [go_sem, seval, k1, k3, h1, h2, gw, w1, w2, w3, w4, h]
theorem f64 {l : Nat} {s : ByteArray} {ar ask out x : Int} (hK : IsS 3 rows K) (hl : l < bx.length) (hb : bx[l]? = some [S s, I ar, I ask, I out]) (h : ∀ bx : List Box, ev cfg (.call 91 [.agg [I op, I n, .dat K]] bx) = some (.ret (I x) none)) :
  stepJ (ev cfg) cfg (.call 97 [.agg [I op, I n, .dat K], .ptr l 0] bx) = some (.ret (B (x != ask)) none) := by
 obtain ⟨w, k1, k2, k3⟩ := hK
 simp (maxSteps := 2000000) only [go_sem, seval, k1, k3, hl, hb, h]
theorem f43 {b1 b2 : Bool} (hK : IsS 3 rows K) (h1 : ∀ bx : List Box, ev cfg (.call 94 [.agg [I op, I n, .dat K], I 1] bx) = some (.ret (B b1) none)) (h2 : ∀ bx : List Box, ev cfg (.call 95 [.agg [I op, I n, .dat K]] bx) = some (.ret (B b2) none)) :
  stepJ (ev cfg) cfg (.call 90 [.agg [I op, I n, .dat K]] bx) = some (.ret (I (if b1 = true then 2 else if b2 = true then 0 else 4)) none) := by
 obtain ⟨w, k1, k2, k3⟩ := hK
 cases b1 <;> cases b2 <;> simp (maxSteps := 2000000) only [go_sem, seval, k1, k3, h1, h2]
theorem f21_bad {x : Int} (hK : IsS 3 rows K) (hx : (x != 0) = true) (h1 : ∀ bx : List Box, ev cfg (.call 90 [.agg [I op, I n, .dat K]] bx) = some (.ret (I x) none)) :
  stepJ (ev cfg) cfg (.call 82 [.agg [I op, I n, .dat K]] bx) = some (.ret (.tup [I 0, I x]) none) := by
 obtain ⟨w, k1, k2, k3⟩ := hK
 simp (maxSteps := 2000000) only [go_sem, seval, k1, k3, h1, hx]
theorem f21_ok {y : Int} (hK : IsS 3 rows K) (h1 : ∀ bx : List Box, ev cfg (.call 90 [.agg [I op, I n, .dat K]] bx) = some (.ret (I 0) none)) (h2 : ∀ bx : List Box, ev cfg (.call 91 [.agg [I op, I n, .dat K]] bx) = some (.ret (I y) none)) :
  stepJ (ev cfg) cfg (.call 82 [.agg [I op, I n, .dat K]] bx) = some (.ret (.tup [I y, I (if (y == 0) = true then 30 else 0)]) none) := by
 obtain ⟨w, k1, k2, k3⟩ := hK
 have h0 : ((0 : Int) != 0) = false := rfl
 cases c1 : (y == 0)
 ·simp (maxSteps := 2000000) only [go_sem, seval, k1, k3, h1, h2, h0, c1]
 ·have : y = 0 := by simpa using c1
  subst this
  simp (maxSteps := 2000000) only [go_sem, seval, k1, k3, h1, h2, h0, c1]
end
section
end
section
end
theorem big_round {bx : List Box} {l : Nat} {m d : Int} {c : Box} {rows : List (List D)} {K : D} {i : Nat} {k n a : Int} {K' L' : D} {res : Bool × Int} (hK : IsS 5 rows K) (hl : l < bx.length) (hb : bx[l]? = some [I m]) (hc : c.all (cellLt (bx.length + 1)) = true)
  (hget : rows[i]? = some [dI k, dI n, dI a, K', L']) (hlt : i < rows.length) (hmax : rows.length < 9223372036854775808) (hd : IntKind.wrap .i64 (d + 1) = d + 1) (hk : K'.oneC = true) (hL : L'.oneC = true)
  (hcall : ∀ bx : List Box, bx[l]? = some [I m] -> l < bx.length -> ev cfg (.call 6 [.agg [I k, I n, I a, .dat K', .dat L'], .ptr l 0, I (d + 1)] bx) = some (.ret (B res.1) (some ⟨bx.set l [I res.2], l, false⟩))) :
  stepJ (ev cfg) cfg (.loop 6 5 ⟨(sh6_5 (.ptr l 0) (I d) (.dat K) (I rows.length) (I i)), bx ++ [c], bx.length, some l, false⟩) =
   if res.1 = true then some (.loop .ret ⟨(se6_5 (B true)), bx.set l [I res.2] ++ [c], bx.length, some l, false⟩)
   else ev cfg (.loop 6 5 ⟨(sh6_5 (.ptr l 0) (I d) (.dat K) (I rows.length) (I ((i + 1 : Nat) : Int))), bx.set l [I res.2] ++ [c], bx.length, some l, false⟩) := by
 obtain ⟨w, h1, h2, h3⟩ := hK
 have hw : w = 5 := isS_w h2 hget
 subst hw
 have hcall' : ∀ r : Box, ev cfg (.call 6 [.agg [I k, I n, I a, .dat K', .dat L'], .ptr l 0, I (d + 1)] (bx ++ [c, r])) = some (.ret (B res.1) (some ⟨bx.set l [I res.2] ++ [c, r], l, false⟩)) := by
  intro r
  rw [hcall _ (by rw [get_old hl]; exact hb) (by simp; omega), set_old hl]
 cases hres : res.1 <;> simp (maxSteps := 2000000) only [go_sem, seval, h1, h3, hk, hL, nat_lt hlt, nat_neg, tnc, hget, hd, hcall', hres, hl, hc, nat_succ hlt hmax, Nat.min_self]
theorem big_end {bx : List Box} {l : Nat} {d : Int} {c : Box} {n i : Nat} {K : D} (hl : l < bx.length) (hc : c.all (cellLt (bx.length + 1)) = true) (hge : n <= i) :
  stepJ (ev cfg) cfg (.loop 6 5 ⟨(sh6_5 (.ptr l 0) (I d) (.dat K) (I n) (I i)), bx ++ [c], bx.length, some l, false⟩) = some (.loop (.exit 0) ⟨(se6_5 .dead), bx ++ [c], bx.length, some l, false⟩) := by
 simp (maxSteps := 2000000) only [go_sem, seval, nat_ge hge, hl, hc]
theorem big_first {bx : List Box} {l : Nat} {m d : Int} {ks : List Blk} {ls : List (Int × Int × Int)} {k n a : Int} {rows : List (List D)} {K L : D} {res : Bool × Int} (hK : IsS 5 rows K) (hL : IsS 3 (ls.map lnkD) L) (hl : l < bx.length) (hb : bx[l]? = some [I m]) (hm : IntKind.wrap .i64 (m - 1) = m - 1) (hrl : rows.length = ks.length)
  (hloop : decide (m - 1 < 0) = false -> decide (d > 60) = false -> ∀ c : Box, c.all (cellLt (bx.length + 1)) = true -> ev cfg (.loop 6 5 ⟨(sh6_5 (.ptr l 0) (I d) (.dat K) (I rows.length) (I 0)), bx.set l [I (m - 1)] ++ [c], bx.length, some l, false⟩) =
   some (if res.1 = true then .loop .ret ⟨(se6_5 (B true)), bx.set l [I res.2] ++ [c], bx.length, some l, false⟩ else .loop (.exit 0) ⟨(se6_5 .dead), bx.set l [I res.2] ++ [c], bx.length, some l, false⟩)) :
  stepJ (ev cfg) cfg (.call 6 [.agg [I k, I n, I a, .dat K, .dat L], .ptr l 0, I d] bx) =
   if (decide (m - 1 < 0) || decide (d > 60) || decide ((ks.length : Int) > 200) || decide ((ls.length : Int) > 100)) = true then some (.ret (B true) (some ⟨bx.set l [I (m - 1)], l, false⟩)) else some (.ret (B res.1) (some ⟨bx.set l [I res.2], l, false⟩)) := by
 obtain ⟨w, h1, h2, h3⟩ := hK
 obtain ⟨wl, l1, l2, l3⟩ := hL
 cases c1 : decide (m - 1 < 0)
 ·cases c2 : decide (d > 60)
  ·cases c3 : decide ((ks.length : Int) > 200)
   ·cases c4 : decide ((ls.length : Int) > 100)
    ·have hloop' := hloop c1 c2 [I k, I n, I a, .dat K, .dat L] (by simp [cellLt])
     cases hres : res.1 <;> simp only [hres, if_true, if_false, Bool.false_eq_true] at hloop' <;> simp (maxSteps := 2000000) only [go_sem, seval, h1, h3, l1, l3, hl, hb, hm, hrl, c1, c2, c3, c4, hres] at hloop' ⊢ <;> simp only [hloop', go_sem, seval]
    ·simp (maxSteps := 2000000) only [go_sem, seval, h1, h3, l1, l3, hl, hb, hm, hrl, c1, c2, c3, c4]
   ·simp (maxSteps := 2000000) only [go_sem, seval, h1, h3, l1, l3, hl, hb, hm, hrl, c1, c2, c3]
  ·simp (maxSteps := 2000000) only [go_sem, seval, h1, h3, l1, l3, hl, hb, hm, hrl, c1, c2]
 ·simp (maxSteps := 2000000) only [go_sem, seval, h1, h3, l1, l3, hl, hb, hm, hrl, c1]
section
variable {bx : List Box} {c : Box} {rows : List (List D)} {K L : D} {lr : List (List D)} {i : Nat} {k n a : Int} {K' L' : D}
theorem r57 {x m : Int} (hK : IsS 5 rows K) (hc : c.all (cellLt (bx.length + 1)) = true) (hget : rows[i]? = some [dI k, dI n, dI a, K', L']) (hlt : i < rows.length) (hmax : rows.length < 9223372036854775808) (hk : K'.oneC = true) (hL : L'.oneC = true)
  (hcall : ∀ bx : List Box, ev cfg (.call 34 [.agg [I k, I n, I a, .dat K', .dat L']] bx) = some (.ret (I x) none)) :
  stepJ (ev cfg) cfg (.loop 34 3 (qs bx (sh34_3 (I m) (.dat K) (I rows.length) (I i)) [c])) =
   ev cfg (.loop 34 3 (qs bx (sh34_3 (I (if m < x then x else m)) (.dat K) (I rows.length) (I ((i + 1 : Nat) : Int))) [c])) := by
 obtain ⟨w, h1, h2, h3⟩ := hK
 obtain rfl := isS_w h2 hget
 simp (maxSteps := 2000000) only [go_sem, seval, h1, h3, hk, hL, nat_lt hlt, nat_neg, tnc, hget, hcall, hc, nat_succ hlt hmax, Nat.min_self]
theorem e57 {m : Int} {n i : Nat} (hc : c.all (cellLt (bx.length + 1)) = true) (hge : n <= i) :
  stepJ (ev cfg) cfg (.loop 34 3 (qs bx (sh34_3 (I m) (.dat K) (I n) (I i)) [c])) = some (.loop (.exit 0) (qs bx (se34_3 (I m)) [c])) := by
 simp (maxSteps := 2000000) only [go_sem, seval, nat_ge hge, hc]
theorem f57 {x : Int} (hK : IsS 5 rows K) (hL : IsS 3 lr L) (hx : IntKind.wrap .i64 (x + 1) = x + 1)
  (hloop : ∀ c : Box, c.all (cellLt (bx.length + 1)) = true -> ev cfg (.loop 34 3 (qs bx (sh34_3 (I 0) (.dat K) (I rows.length) (I 0)) [c])) = some (.loop (.exit 0) (qs bx (se34_3 (I x)) [c]))) :
  stepJ (ev cfg) cfg (.call 34 [.agg [I k, I n, I a, .dat K, .dat L]] bx) = some (.ret (I (x + 1)) none) := by
 obtain ⟨w, h1, h2, h3⟩ := hK
 obtain ⟨wl, l1, l2, l3⟩ := hL
 have hloop' := hloop [I k, I n, I a, .dat K, .dat L] (by simp [cellLt])
 simp (maxSteps := 2000000) only [go_sem, seval, h1, h3, l1, l3, hloop', hx]
theorem r36 {x m : Int} (hK : IsS 5 rows K) (hc : c.all (cellLt (bx.length + 1)) = true) (hget : rows[i]? = some [dI k, dI n, dI a, K', L']) (hlt : i < rows.length) (hmax : rows.length < 9223372036854775808) (hk : K'.oneC = true) (hL : L'.oneC = true)
  (hcall : ∀ bx : List Box, ev cfg (.call 13 [.agg [I k, I n, I a, .dat K', .dat L']] bx) = some (.ret (I x) none)) :
  stepJ (ev cfg) cfg (.loop 13 3 (qs bx (sh13_3 (I m) (.dat K) (I rows.length) (I i)) [c])) =
   ev cfg (.loop 13 3 (qs bx (sh13_3 (I (if m < x then x else m)) (.dat K) (I rows.length) (I ((i + 1 : Nat) : Int))) [c])) := by
 obtain ⟨w, h1, h2, h3⟩ := hK
 obtain rfl := isS_w h2 hget
 cases hx : decide (x > m)
 ·have hx' : ¬ m < x := by simpa using hx
  simp (maxSteps := 2000000) only [go_sem, seval, h1, h3, hk, hL, nat_lt hlt, nat_neg, tnc, hget, hcall, hc, nat_succ hlt hmax, Nat.min_self, hx, hx']
 ·have hx' : m < x := by simpa using hx
  simp (maxSteps := 2000000) only [go_sem, seval, h1, h3, hk, hL, nat_lt hlt, nat_neg, tnc, hget, hcall, hc, nat_succ hlt hmax, Nat.min_self, hx, hx']
theorem e36 {m : Int} {n i : Nat} (hc : c.all (cellLt (bx.length + 1)) = true) (hge : n <= i) :
  stepJ (ev cfg) cfg (.loop 13 3 (qs bx (sh13_3 (I m) (.dat K) (I n) (I i)) [c])) = some (.loop (.exit 0) (qs bx (se13_3 (I m)) [c])) := by
 simp (maxSteps := 2000000) only [go_sem, seval, nat_ge hge, hc]
theorem f36 {x : Int} (hK : IsS 5 rows K) (hL : IsS 3 lr L) (hx : IntKind.wrap .i64 (x + 1) = x + 1)
  (hloop : ∀ c : Box, c.all (cellLt (bx.length + 1)) = true -> ev cfg (.loop 13 3 (qs bx (sh13_3 (I 0) (.dat K) (I rows.length) (I 0)) [c])) = some (.loop (.exit 0) (qs bx (se13_3 (I x)) [c]))) :
  stepJ (ev cfg) cfg (.call 13 [.agg [I k, I n, I a, .dat K, .dat L]] bx) = some (.ret (I (x + 1)) none) := by
 obtain ⟨w, h1, h2, h3⟩ := hK
 obtain ⟨wl, l1, l2, l3⟩ := hL
 have hloop' := hloop [I k, I n, I a, .dat K, .dat L] (by simp [cellLt])
 simp (maxSteps := 2000000) only [go_sem, seval, h1, h3, l1, l3, hloop', hx]
theorem r39 {l : Nat} {u v : Box} {g : FuncId} (hK : IsS 5 rows K) (hl : l < bx.length) (hb : bx[l]? = some u) (hc : c.all (cellLt (bx.length + 1)) = true) (hget : rows[i]? = some [dI k, dI n, dI a, K', L']) (hlt : i < rows.length) (hmax : rows.length < 9223372036854775808) (hk : K'.oneC = true) (hL : L'.oneC = true)
  (lo : Option Nat) (hlo : lo = none ∨ lo = some l)
  (hcall : ∀ bx : List Box, bx[l]? = some u -> ev cfg (.call 30 [.agg [I k, I n, I a, .dat K', .dat L'], .clo g [l]] bx) = some (.ret (.tup []) (some ⟨bx.set l v, l, false⟩))) :
  stepJ (ev cfg) cfg (.loop 30 3 ⟨(sh30_3 (.clo g [l]) (.dat K) (I rows.length) (I i)), bx ++ [c], bx.length, lo, false⟩) =
   ev cfg (.loop 30 3 ⟨(sh30_3 (.clo g [l]) (.dat K) (I rows.length) (I ((i + 1 : Nat) : Int))), bx.set l v ++ [c], bx.length, some l, false⟩) := by
 obtain ⟨w, h1, h2, h3⟩ := hK
 obtain rfl := isS_w h2 hget
 have hcall' : ∀ r : Box, ev cfg (.call 30 [.agg [I k, I n, I a, .dat K', .dat L'], .clo g [l]] (bx ++ [c, r])) = some (.ret (.tup []) (some ⟨bx.set l v ++ [c, r], l, false⟩)) := by
  intro r
  rw [hcall _ (by rw [get_old hl]; exact hb), set_old hl]
 rcases hlo with rfl | rfl <;> simp (maxSteps := 2000000) only [go_sem, seval, h1, h3, hk, hL, nat_lt hlt, nat_neg, tnc, hget, hcall', hc, hl, nat_succ hlt hmax, Nat.min_self]
theorem e39 {l : Nat} {g : FuncId} {n i : Nat} (hl : l < bx.length) (hc : c.all (cellLt (bx.length + 1)) = true) (hge : n <= i) (lo : Option Nat) :
  stepJ (ev cfg) cfg (.loop 30 3 ⟨(sh30_3 (.clo g [l]) (.dat K) (I n) (I i)), bx ++ [c], bx.length, lo, false⟩) = some (.loop (.exit 0) ⟨(se30_3), bx ++ [c], bx.length, lo, false⟩) := by
 simp (maxSteps := 2000000) only [go_sem, seval, nat_ge hge, hc, hl]
theorem f39 {l : Nat} {u v w' : Box} {g : FuncId} (hK : IsS 5 rows K) (hL : IsS 3 lr L) (hl : l < bx.length) (hb : bx[l]? = some u)
  (hg : ∀ bx : List Box, bx[l]? = some u -> ev cfg (.call g [.agg [I k, I n, I a, .dat K, .dat L], .ptr l 0] bx) = some (.ret (.tup []) (some ⟨bx.set l v, l, false⟩)))
  (hloop : ∀ c : Box, c.all (cellLt (bx.length + 1)) = true -> ev cfg (.loop 30 3 ⟨(sh30_3 (.clo g [l]) (.dat K) (I rows.length) (I 0)), bx.set l v ++ [c], bx.length, some l, false⟩) = some (.loop (.exit 0) ⟨(se30_3), bx.set l w' ++ [c], bx.length, some l, false⟩)) :
  stepJ (ev cfg) cfg (.call 30 [.agg [I k, I n, I a, .dat K, .dat L], .clo g [l]] bx) = some (.ret (.tup []) (some ⟨bx.set l w', l, false⟩)) := by
 obtain ⟨w, h1, h2, h3⟩ := hK
 obtain ⟨wl, l1, l2, l3⟩ := hL
 have hloop' := hloop [I k, I n, I a, .dat K, .dat L] (by simp [cellLt])
 have hg' : ∀ r : Box, ev cfg (.call g [.agg [I k, I n, I a, .dat K, .dat L], .ptr l 0] (bx ++ [r])) = some (.ret (.tup []) (some ⟨bx.set l v ++ [r], l, false⟩)) := by
  intro r
  rw [hg _ (by rw [get_old hl]; exact hb), set_old hl]
 simp (maxSteps := 2000000) only [go_sem, seval, h1, h3, l1, l3, hl, hb, hg', hloop']
theorem f40 {l : Nat} {m : Int} (hK : IsS 5 rows K) (hL : IsS 3 lr L) (hl : l < bx.length) (hb : bx[l]? = some [I m]) :
  stepJ (ev cfg) cfg (.call 31 [.agg [I k, I n, I a, .dat K, .dat L], .ptr l 0] bx) = some (.ret (.tup []) (some ⟨bx.set l [I (IntKind.wrap .i64 (m + 1))], l, false⟩)) := by
 obtain ⟨w, h1, h2, h3⟩ := hK
 obtain ⟨wl, l1, l2, l3⟩ := hL
 simp (maxSteps := 2000000) only [go_sem, seval, h1, h3, l1, l3, hl, hb]
theorem f15 {m : Int} (hK : IsS 5 rows K) (hL : IsS 3 lr L)
  (he : ∀ c : Box, ev cfg (.call 30 [.agg [I k, I n, I a, .dat K, .dat L], .clo 31 [bx.length + 1]] (bx ++ [c, [I 0]])) = some (.ret (.tup []) (some ⟨bx ++ [c, [I m]], bx.length + 1, false⟩))) :
  stepJ (ev cfg) cfg (.call 12 [.agg [I k, I n, I a, .dat K, .dat L]] bx) = some (.ret (I m) none) := by
 obtain ⟨w, h1, h2, h3⟩ := hK
 obtain ⟨wl, l1, l2, l3⟩ := hL
 simp (maxSteps := 2000000) only [go_sem, seval, h1, h3, l1, l3, he]
theorem f34 {m : Bool} (hK : IsS 5 rows K) (hL : IsS 3 lr L)
  (he : ∀ c : Box, ev cfg (.call 30 [.agg [I k, I n, I a, .dat K, .dat L], .clo 41 [bx.length + 1]] (bx ++ [c, [B false]])) = some (.ret (.tup []) (some ⟨bx ++ [c, [B m]], bx.length + 1, false⟩))) :
  stepJ (ev cfg) cfg (.call 23 [.agg [I k, I n, I a, .dat K, .dat L]] bx) = some (.ret (B m) none) := by
 obtain ⟨w, h1, h2, h3⟩ := hK
 obtain ⟨wl, l1, l2, l3⟩ := hL
 simp (maxSteps := 2000000) only [go_sem, seval, h1, h3, l1, l3, he]
theorem f33 {d z : Int} (hK : IsS 5 rows K) (hL : IsS 3 lr L)
  (hd : ∀ bx : List Box, ev cfg (.call 34 [.agg [I k, I n, I a, .dat K, .dat L]] bx) = some (.ret (I d) none))
  (hz : ∀ bx : List Box, ev cfg (.call 12 [.agg [I k, I n, I a, .dat K, .dat L]] bx) = some (.ret (I z) none)) :
  stepJ (ev cfg) cfg (.call 18 [.agg [I k, I n, I a, .dat K, .dat L]] bx) = some (.ret (B (decide (d > 24) || decide (z > 96))) none) := by
 obtain ⟨w, h1, h2, h3⟩ := hK
 obtain ⟨wl, l1, l2, l3⟩ := hL
 cases c : decide (d > 24) <;> simp (maxSteps := 2000000) only [go_sem, seval, h1, h3, l1, l3, hd, hz, c]
end
section
variable {bx : List Box} {c : Box} {rows : List (List D)} {K L : D} {lr : List (List D)} {k n a : Int}
theorem f58 {l : Nat} {v v' : Bool} (hK : IsS 5 rows K) (hL : IsS 3 lr L) (hl : l < bx.length) (hb : bx[l]? = some [B v])
  (hloop : ∀ c : Box, c.all (cellLt (bx.length + 1)) = true -> ev cfg (.loop 41 3 ⟨(sh41_3 (.ptr l 0) (.dat L) (I lr.length) (I 0)), bx.set l [B (v || decide (k < 1) || decide (k > 10) || decide (n < 0) || decide (a < 0))] ++ [c], bx.length, some l, false⟩) = some (.loop (.exit 0) ⟨(se41_3), bx.set l [B v'] ++ [c], bx.length, some l, false⟩)) :
  stepJ (ev cfg) cfg (.call 41 [.agg [I k, I n, I a, .dat K, .dat L], .ptr l 0] bx) = some (.ret (.tup []) (some ⟨bx.set l [B v'], l, false⟩)) := by
 obtain ⟨ww, h1, h2, h3⟩ := hK
 obtain ⟨wl, l1, l2, l3⟩ := hL
 have hloop' := hloop [I k, I n, I a, .dat K, .dat L] (by simp [cellLt])
 cases v
 ·cases c1 : decide (k < 1)
  ·cases c2 : decide (k > 10)
   ·cases c3 : decide (n < 0) <;> simp only [c1, c2, c3, Bool.false_or, Bool.or_false, Bool.or_true, Bool.true_or] at hloop' <;> simp (maxSteps := 2000000) only [go_sem, seval, h1, h3, l1, l3, hl, hb, c1, c2, c3, hloop']
   ·simp only [c1, c2, Bool.false_or, Bool.or_false, Bool.or_true, Bool.true_or] at hloop'
    simp (maxSteps := 2000000) only [go_sem, seval, h1, h3, l1, l3, hl, hb, c1, c2, hloop']
  ·simp only [c1, Bool.false_or, Bool.or_false, Bool.or_true, Bool.true_or] at hloop'
   simp (maxSteps := 2000000) only [go_sem, seval, h1, h3, l1, l3, hl, hb, c1, hloop']
 ·simp only [Bool.true_or] at hloop'
  simp (maxSteps := 2000000) only [go_sem, seval, h1, h3, l1, l3, hl, hb, hloop']
end
section
end
section
end
section
end
section
variable {bx : List Box} {rows rows2 : List (List D)} {K L K2 L2 : D} {lr lr2 : List (List D)} {k n a k2 n2 a2 : Int}
theorem f17 {x y : Bool} (hK : IsS 5 rows K) (hL : IsS 3 lr L) (hK2 : IsS 5 rows2 K2) (hL2 : IsS 3 lr2 L2)
  (h41 : ∀ bx : List Box, ev cfg (.call 25 [.dat L, .dat L2] bx) = some (.ret (B x) none)) (h42 : ∀ bx : List Box, ev cfg (.call 26 [.dat K, .dat K2, .clo 10 []] bx) = some (.ret (B y) none)) :
  stepJ (ev cfg) cfg (.call 10 [.agg [I k, I n, I a, .dat K, .dat L], .agg [I k2, I n2, I a2, .dat K2, .dat L2]] bx) = some (.ret (B (k == k2 && n == n2 && a == a2 && x && y)) none) := by
 obtain ⟨w, h1, h2, h3⟩ := hK
 obtain ⟨wl, l1, l2, l3⟩ := hL
 obtain ⟨w2, g1, g2, g3⟩ := hK2
 obtain ⟨wl2, m1, m2, m3⟩ := hL2
 cases c1 : (k == k2)
 ·simp (maxSteps := 2000000) only [go_sem, seval, h1, h3, l1, l3, g1, g3, m1, m3, h41, h42, c1]
 ·cases c2 : (n == n2)
  ·simp (maxSteps := 2000000) only [go_sem, seval, h1, h3, l1, l3, g1, g3, m1, m3, h41, h42, c1, c2]
  ·cases c3 : (a == a2)
   ·simp (maxSteps := 2000000) only [go_sem, seval, h1, h3, l1, l3, g1, g3, m1, m3, h41, h42, c1, c2, c3]
   ·cases x <;> simp (maxSteps := 2000000) only [go_sem, seval, h1, h3, l1, l3, g1, g3, m1, m3, h41, h42, c1, c2, c3]
theorem f42 {x : Bool} (hK : IsS 5 rows K) (hK2 : IsS 5 rows2 K2) (h : ((rows.length : Int) != (rows2.length : Int)) = false)
  (hloop : ev cfg (.loop 26 4 (q0 bx (sh26_4 (.dat K2) (.clo 10 []) (.dat K) (I rows.length) (I 0)))) = some (if x = true then .loop (.exit 0) (q0 bx (se26_4 .dead)) else .loop .ret (q0 bx (se26_4 (B false))))) :
  stepJ (ev cfg) cfg (.call 26 [.dat K, .dat K2, .clo 10 []] bx) = some (.ret (B x) none) := by
 obtain ⟨w, h1, h2, h3⟩ := hK
 obtain ⟨w2, g1, g2, g3⟩ := hK2
 cases x <;> simp only [Bool.false_eq_true, if_true, if_false] at hloop <;> simp (maxSteps := 2000000) only [go_sem, seval, h1, h3, g1, g3, h, hloop]
theorem f41 {x : Bool} (hL : IsS 3 lr L) (hL2 : IsS 3 lr2 L2) (h : ((lr.length : Int) != (lr2.length : Int)) = false)
  (hloop : ev cfg (.loop 25 4 (q0 bx (sh25_4 (.dat L) (.dat L2) (I lr.length) (I 0)))) = some (if x = true then .loop (.exit 0) (q0 bx (se25_4 .dead)) else .loop .ret (q0 bx (se25_4 (B false))))) :
  stepJ (ev cfg) cfg (.call 25 [.dat L, .dat L2] bx) = some (.ret (B x) none) := by
 obtain ⟨w, h1, h2, h3⟩ := hL
 obtain ⟨w2, g1, g2, g3⟩ := hL2
 cases x <;> simp only [Bool.false_eq_true, if_true, if_false] at hloop <;> simp (maxSteps := 2000000) only [go_sem, seval, h1, h3, g1, g3, h, hloop]
def altK : D := .sl 5 [[dI 2, dI 1, dI 0, .nil, .nil], [dI 5, dI 2, dI 0, .sl 5 [[dI 2, dI 3, dI 0, .nil, .nil], [dI 1, dI 0, dI 0, .nil, .nil]], .nil]]
theorem f11 (ht : ∀ bx : List Box, ev cfg (.call 9 [.agg [I 3, I 0, I 0, .dat altK, .dat .nil]] bx) = some (.ret (.tup [S ⟨#[40, 115, 101, 113, 32, 49, 32, 40, 97, 108, 116, 58, 50, 32, 51, 32, 45, 41, 41]⟩, I 0]) none))
  (hz : ∀ bx : List Box, ev cfg (.call 12 [.agg [I 3, I 0, I 0, .dat altK, .dat .nil]] bx) = some (.ret (I 5) none))
  (hs : ∀ bx : List Box, ev cfg (.call 10 [.agg [I 3, I 0, I 0, .dat altK, .dat .nil], .agg [I 3, I 0, I 0, .dat altK, .dat .nil]] bx) = some (.ret (B true) none)) :
  stepJ (ev cfg) cfg (.call 7 [] bx) = some (.ret (B true) none) := by
 simp only [altK] at ht hz hs
 simp (maxSteps := 2000000) only [go_sem, seval, ht, hz, hs, Int.reduceBEq]
end
end Go.Proofs.YtifckjhggamefaaDoor
