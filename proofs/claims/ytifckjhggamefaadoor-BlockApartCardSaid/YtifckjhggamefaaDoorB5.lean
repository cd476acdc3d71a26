/- Rounds of the blocks' functions: digits, wrong, bad. No condition. -/
import Derived.Test.YtifckjhggamefaaDoorAt
import Derived.Test.YtifckjhggamefaaDoorMA
set_option linter.unusedSimpArgs false
set_option linter.unusedVariables false
set_option linter.unusedSectionVars false
namespace Go.Proofs.YtifckjhggamefaaDoor
open Go Go.Vx
set_option maxHeartbeats 4000000
set_option maxRecDepth 10000

def chr (d : Nat) : ByteArray := ⟨#[UInt8.ofNat (48 + d)]⟩
def digN (n : Nat) : ByteArray := if n < 10 then chr n else digN (n / 10) ++ chr (n % 10)
def dig (n : Int) : ByteArray := if n < 0 then ⟨#[45, 49]⟩ else digN n.toNat

theorem chr_size (d : Nat) : (chr d).size = 1 := rfl
theorem digN_size : ∀ (k n : Nat), n < 10 ^ (k + 1) → (digN n).size ≤ k + 1
  | 0, n, h => by unfold digN; rw [if_pos (by simpa using h)]; exact Nat.le_refl 1
  | k + 1, n, h => by
    unfold digN
    split
    · rw [chr_size]; omega
    · rw [ByteArray.size_append, chr_size]
      have := digN_size k (n / 10) (by rw [Nat.pow_succ] at h; omega)
      omega
theorem dig_size {n : Int} (h : i64 n) : (dig n).size ≤ 19 := by
  unfold dig
  split
  · decide
  · exact digN_size 18 _ (by obtain ⟨h1, h2⟩ := h; simp only [Nat.reducePow, Nat.reduceAdd]; omega)

theorem enc_chr : ∀ d : Nat, d < 10 → Utf8.encode (IntKind.wrap .i32 (IntKind.wrap .i64 (48 + (d : Int)))) = chr d := by decide
section
variable {bx : List Box} {c : Box} {rows : List (List D)} {K L : D} {lr : List (List D)} {i : Nat} {k n a : Int} {K' L' : D}

theorem f59_neg {n : Int} (h : decide (n < 0) = true) : stepJ (ev cfg) cfg (.call 42 [I n] bx) = some (.ret (S ⟨#[45, 49]⟩) none) := by
  simp (maxSteps := 2000000) only [go_sem, Nat.reduceSub, Nat.reduceAdd, Nat.reduceMul, Nat.reduceLT, Nat.reduceLeDiff, Nat.reduceBEq, Nat.reduceEqDiff, Nat.reduceGT, Int.reduceToNat, Int.reduceLT, Int.reduceNeg, Int.reduceEq, Int.reduceBEq, Int.reduceBNe, Int.reduceLE, Int.reduceGT, Int.reduceGE, Int.reduceNe, Int.reduceAdd, Int.reduceSub, Int.reduceMul, reduceIte, ↓reduceIte, fn42, cx42, Tryd.f42, ti3, ti9, ti21, h]
theorem f59_one {n : Int} {s : ByteArray} (h : decide (n < 0) = false) (h2 : decide (n < 10) = true) (he : Utf8.encode (IntKind.wrap .i32 (IntKind.wrap .i64 (48 + n))) = s) : stepJ (ev cfg) cfg (.call 42 [I n] bx) = some (.ret (S s) none) := by
  simp (maxSteps := 2000000) only [go_sem, Nat.reduceSub, Nat.reduceAdd, Nat.reduceMul, Nat.reduceLT, Nat.reduceLeDiff, Nat.reduceBEq, Nat.reduceEqDiff, Nat.reduceGT, Int.reduceToNat, Int.reduceLT, Int.reduceNeg, Int.reduceEq, Int.reduceBEq, Int.reduceBNe, Int.reduceLE, Int.reduceGT, Int.reduceGE, Int.reduceNe, Int.reduceAdd, Int.reduceSub, Int.reduceMul, reduceIte, ↓reduceIte, fn42, cx42, Tryd.f42, ti3, ti9, ti21, h, h2, he]
theorem f59_more {n : Int} {s t : ByteArray} (h : decide (n < 0) = false) (h2 : decide (n < 10) = false) (he : Utf8.encode (IntKind.wrap .i32 (IntKind.wrap .i64 (48 + n.tmod 10))) = s) (hw : IntKind.wrap .i64 (n.tdiv 10) = n.tdiv 10) (hs : t.size + s.size ≤ 9223372036854775807)
    (hr : ∀ bx : List Box, ev cfg (.call 42 [I (n.tdiv 10)] bx) = some (.ret (S t) none)) : stepJ (ev cfg) cfg (.call 42 [I n] bx) = some (.ret (S (t ++ s)) none) := by
  simp (maxSteps := 2000000) only [go_sem, Nat.reduceSub, Nat.reduceAdd, Nat.reduceMul, Nat.reduceLT, Nat.reduceLeDiff, Nat.reduceBEq, Nat.reduceEqDiff, Nat.reduceGT, Int.reduceToNat, Int.reduceLT, Int.reduceNeg, Int.reduceEq, Int.reduceBEq, Int.reduceBNe, Int.reduceLE, Int.reduceGT, Int.reduceGE, Int.reduceNe, Int.reduceAdd, Int.reduceSub, Int.reduceMul, reduceIte, ↓reduceIte, fn42, cx42, Tryd.f42, ti3, ti9, ti21, h, h2, he, hw, hr, hs]

theorem r58 {l : Nat} {v : Bool} {f t w : Int} (hL : IsS 3 lr L) (hl : l < bx.length) (hb : bx[l]? = some [B v]) (hc : c.all (cellLt (bx.length + 1)) = true) (hget : lr[i]? = some [dI f, dI t, dI w]) (hlt : i < lr.length) (hmax : lr.length < 9223372036854775808) (lo : Option Nat) (hlo : lo = some l) :
    stepJ (ev cfg) cfg (.loop 41 3 ⟨(.dead :: .ptr l 0 :: .dead :: .dead :: .dead :: .dead :: .dead :: .dead :: .dead :: .dead :: .dead :: .dead :: .dead :: .dead :: .dead :: .dead :: .dead :: .dead :: .dead :: .dead :: .dead :: .dead :: .dead :: .dead :: .dead :: .dead :: .dead :: .dat L :: I lr.length :: I i :: .dead :: .dead :: .dead :: .dead :: .dead :: .dead :: .dead :: .dead :: .dead :: .dead :: .dead :: .dead :: .dead :: .dead :: .dead :: .dead :: .dead :: .dead :: .dead :: .dead :: []), bx ++ [c], bx.length, lo, false⟩) =
      ev cfg (.loop 41 3 ⟨(.dead :: .ptr l 0 :: .dead :: .dead :: .dead :: .dead :: .dead :: .dead :: .dead :: .dead :: .dead :: .dead :: .dead :: .dead :: .dead :: .dead :: .dead :: .dead :: .dead :: .dead :: .dead :: .dead :: .dead :: .dead :: .dead :: .dead :: .dead :: .dat L :: I lr.length :: I ((i + 1 : Nat) : Int) :: .dead :: .dead :: .dead :: .dead :: .dead :: .dead :: .dead :: .dead :: .dead :: .dead :: .dead :: .dead :: .dead :: .dead :: .dead :: .dead :: .dead :: .dead :: .dead :: .dead :: []), bx.set l [B (v || decide (f < -1) || decide (t < -1) || decide (w < -1))] ++ [c], bx.length, some l, false⟩) := by
  obtain ⟨ww, h1, h2, h3⟩ := hL
  obtain rfl := isS_w h2 hget
  subst hlo
  cases v
  · cases c1 : decide (f < -1)
    · cases c2 : decide (t < -1) <;> simp (maxSteps := 2000000) only [go_sem, Nat.reduceSub, Nat.reduceAdd, Nat.reduceMul, Nat.reduceLT, Nat.reduceLeDiff, Nat.reduceBEq, Nat.reduceEqDiff, Nat.reduceGT, Int.reduceToNat, Int.reduceLT, Int.reduceNeg, Int.reduceEq, Int.reduceBEq, Int.reduceBNe, Int.reduceLE, Int.reduceGT, Int.reduceGE, Int.reduceNe, Int.reduceAdd, Int.reduceSub, Int.reduceMul, reduceIte, ↓reduceIte, fn41, cx41, Tryd.f41, ti3, ti4, ti26, ti27, ti29, ti70, h1, h3, nat_lt hlt, nat_neg, Int.toNat_natCast, hget, hc, hl, hb, nat_succ hlt hmax, Nat.min_self, c1, c2]
    · simp (maxSteps := 2000000) only [go_sem, Nat.reduceSub, Nat.reduceAdd, Nat.reduceMul, Nat.reduceLT, Nat.reduceLeDiff, Nat.reduceBEq, Nat.reduceEqDiff, Nat.reduceGT, Int.reduceToNat, Int.reduceLT, Int.reduceNeg, Int.reduceEq, Int.reduceBEq, Int.reduceBNe, Int.reduceLE, Int.reduceGT, Int.reduceGE, Int.reduceNe, Int.reduceAdd, Int.reduceSub, Int.reduceMul, reduceIte, ↓reduceIte, fn41, cx41, Tryd.f41, ti3, ti4, ti26, ti27, ti29, ti70, h1, h3, nat_lt hlt, nat_neg, Int.toNat_natCast, hget, hc, hl, hb, nat_succ hlt hmax, Nat.min_self, c1]
  · simp (maxSteps := 2000000) only [go_sem, Nat.reduceSub, Nat.reduceAdd, Nat.reduceMul, Nat.reduceLT, Nat.reduceLeDiff, Nat.reduceBEq, Nat.reduceEqDiff, Nat.reduceGT, Int.reduceToNat, Int.reduceLT, Int.reduceNeg, Int.reduceEq, Int.reduceBEq, Int.reduceBNe, Int.reduceLE, Int.reduceGT, Int.reduceGE, Int.reduceNe, Int.reduceAdd, Int.reduceSub, Int.reduceMul, reduceIte, ↓reduceIte, fn41, cx41, Tryd.f41, ti3, ti4, ti26, ti27, ti29, ti70, h1, h3, nat_lt hlt, nat_neg, Int.toNat_natCast, hget, hc, hl, hb, nat_succ hlt hmax, Nat.min_self]
theorem e58 {l : Nat} {n i : Nat} (hl : l < bx.length) (hc : c.all (cellLt (bx.length + 1)) = true) (hge : n ≤ i) :
    stepJ (ev cfg) cfg (.loop 41 3 ⟨(.dead :: .ptr l 0 :: .dead :: .dead :: .dead :: .dead :: .dead :: .dead :: .dead :: .dead :: .dead :: .dead :: .dead :: .dead :: .dead :: .dead :: .dead :: .dead :: .dead :: .dead :: .dead :: .dead :: .dead :: .dead :: .dead :: .dead :: .dead :: .dat L :: I n :: I i :: .dead :: .dead :: .dead :: .dead :: .dead :: .dead :: .dead :: .dead :: .dead :: .dead :: .dead :: .dead :: .dead :: .dead :: .dead :: .dead :: .dead :: .dead :: .dead :: .dead :: []), bx ++ [c], bx.length, some l, false⟩) = some (.loop (.exit 0) ⟨(.dead :: .dead :: .dead :: .dead :: .dead :: .dead :: .dead :: .dead :: .dead :: .dead :: .dead :: .dead :: .dead :: .dead :: .dead :: .dead :: .dead :: .dead :: .dead :: .dead :: .dead :: .dead :: .dead :: .dead :: .dead :: .dead :: .dead :: .dead :: .dead :: .dead :: .dead :: .dead :: .dead :: .dead :: .dead :: .dead :: .dead :: .dead :: .dead :: .dead :: .dead :: .dead :: .dead :: .dead :: .dead :: .dead :: .dead :: .dead :: .dead :: .dead :: []), bx ++ [c], bx.length, some l, false⟩) := by
  simp (maxSteps := 2000000) only [go_sem, Nat.reduceSub, Nat.reduceAdd, Nat.reduceMul, Nat.reduceLT, Nat.reduceLeDiff, Nat.reduceBEq, Nat.reduceEqDiff, Nat.reduceGT, Int.reduceToNat, Int.reduceLT, Int.reduceNeg, Int.reduceEq, Int.reduceBEq, Int.reduceBNe, Int.reduceLE, Int.reduceGT, Int.reduceGE, Int.reduceNe, Int.reduceAdd, Int.reduceSub, Int.reduceMul, reduceIte, ↓reduceIte, fn41, cx41, Tryd.f41, ti3, ti4, ti26, ti27, ti29, ti70, nat_ge hge, hc, hl]
theorem f58 {l : Nat} {v v' : Bool} (hK : IsS 5 rows K) (hL : IsS 3 lr L) (hl : l < bx.length) (hb : bx[l]? = some [B v])
    (hloop : ∀ c : Box, c.all (cellLt (bx.length + 1)) = true → ev cfg (.loop 41 3 ⟨(.dead :: .ptr l 0 :: .dead :: .dead :: .dead :: .dead :: .dead :: .dead :: .dead :: .dead :: .dead :: .dead :: .dead :: .dead :: .dead :: .dead :: .dead :: .dead :: .dead :: .dead :: .dead :: .dead :: .dead :: .dead :: .dead :: .dead :: .dead :: .dat L :: I lr.length :: I 0 :: .dead :: .dead :: .dead :: .dead :: .dead :: .dead :: .dead :: .dead :: .dead :: .dead :: .dead :: .dead :: .dead :: .dead :: .dead :: .dead :: .dead :: .dead :: .dead :: .dead :: []), bx.set l [B (v || decide (k < 1) || decide (k > 10) || decide (n < 0) || decide (a < 0))] ++ [c], bx.length, some l, false⟩) = some (.loop (.exit 0) ⟨(.dead :: .dead :: .dead :: .dead :: .dead :: .dead :: .dead :: .dead :: .dead :: .dead :: .dead :: .dead :: .dead :: .dead :: .dead :: .dead :: .dead :: .dead :: .dead :: .dead :: .dead :: .dead :: .dead :: .dead :: .dead :: .dead :: .dead :: .dead :: .dead :: .dead :: .dead :: .dead :: .dead :: .dead :: .dead :: .dead :: .dead :: .dead :: .dead :: .dead :: .dead :: .dead :: .dead :: .dead :: .dead :: .dead :: .dead :: .dead :: .dead :: .dead :: []), bx.set l [B v'] ++ [c], bx.length, some l, false⟩)) :
    stepJ (ev cfg) cfg (.call 41 [.agg [I k, I n, I a, .dat K, .dat L], .ptr l 0] bx) = some (.ret (.tup []) (some ⟨bx.set l [B v'], l, false⟩)) := by
  obtain ⟨ww, h1, h2, h3⟩ := hK
  obtain ⟨wl, l1, l2, l3⟩ := hL
  have hloop' := hloop [I k, I n, I a, .dat K, .dat L] (by simp [cellLt])
  cases v
  · cases c1 : decide (k < 1)
    · cases c2 : decide (k > 10)
      · cases c3 : decide (n < 0) <;> simp only [c1, c2, c3, Bool.false_or, Bool.or_false, Bool.or_true, Bool.true_or] at hloop' <;> simp (maxSteps := 2000000) only [go_sem, Nat.reduceSub, Nat.reduceAdd, Nat.reduceMul, Nat.reduceLT, Nat.reduceLeDiff, Nat.reduceBEq, Nat.reduceEqDiff, Nat.reduceGT, Int.reduceToNat, Int.reduceLT, Int.reduceNeg, Int.reduceEq, Int.reduceBEq, Int.reduceBNe, Int.reduceLE, Int.reduceGT, Int.reduceGE, Int.reduceNe, Int.reduceAdd, Int.reduceSub, Int.reduceMul, reduceIte, ↓reduceIte, fn41, cx41, Tryd.f41, ti3, ti4, ti26, ti27, ti29, ti70, h1, h3, l1, l3, hl, hb, c1, c2, c3, hloop']
      · simp only [c1, c2, Bool.false_or, Bool.or_false, Bool.or_true, Bool.true_or] at hloop'
        simp (maxSteps := 2000000) only [go_sem, Nat.reduceSub, Nat.reduceAdd, Nat.reduceMul, Nat.reduceLT, Nat.reduceLeDiff, Nat.reduceBEq, Nat.reduceEqDiff, Nat.reduceGT, Int.reduceToNat, Int.reduceLT, Int.reduceNeg, Int.reduceEq, Int.reduceBEq, Int.reduceBNe, Int.reduceLE, Int.reduceGT, Int.reduceGE, Int.reduceNe, Int.reduceAdd, Int.reduceSub, Int.reduceMul, reduceIte, ↓reduceIte, fn41, cx41, Tryd.f41, ti3, ti4, ti26, ti27, ti29, ti70, h1, h3, l1, l3, hl, hb, c1, c2, hloop']
    · simp only [c1, Bool.false_or, Bool.or_false, Bool.or_true, Bool.true_or] at hloop'
      simp (maxSteps := 2000000) only [go_sem, Nat.reduceSub, Nat.reduceAdd, Nat.reduceMul, Nat.reduceLT, Nat.reduceLeDiff, Nat.reduceBEq, Nat.reduceEqDiff, Nat.reduceGT, Int.reduceToNat, Int.reduceLT, Int.reduceNeg, Int.reduceEq, Int.reduceBEq, Int.reduceBNe, Int.reduceLE, Int.reduceGT, Int.reduceGE, Int.reduceNe, Int.reduceAdd, Int.reduceSub, Int.reduceMul, reduceIte, ↓reduceIte, fn41, cx41, Tryd.f41, ti3, ti4, ti26, ti27, ti29, ti70, h1, h3, l1, l3, hl, hb, c1, hloop']
  · simp only [Bool.true_or] at hloop'
    simp (maxSteps := 2000000) only [go_sem, Nat.reduceSub, Nat.reduceAdd, Nat.reduceMul, Nat.reduceLT, Nat.reduceLeDiff, Nat.reduceBEq, Nat.reduceEqDiff, Nat.reduceGT, Int.reduceToNat, Int.reduceLT, Int.reduceNeg, Int.reduceEq, Int.reduceBEq, Int.reduceBNe, Int.reduceLE, Int.reduceGT, Int.reduceGE, Int.reduceNe, Int.reduceAdd, Int.reduceSub, Int.reduceMul, reduceIte, ↓reduceIte, fn41, cx41, Tryd.f41, ti3, ti4, ti26, ti27, ti29, ti70, h1, h3, l1, l3, hl, hb, hloop']
end

end Go.Proofs.YtifckjhggamefaaDoor
