/- What 'big' of the law's package answers: the whole. No condition. -/
import Derived.Test.YtifckjhggamefaaDoorAt
import Derived.Test.YtifckjhggamefaaDoorB2
import Derived.Test.YtifckjhggamefaaDoorMA
set_option linter.unusedSimpArgs false
set_option linter.unusedVariables false
set_option linter.unusedSectionVars false
namespace Go.Proofs.YtifckjhggamefaaDoor
open Go Go.Vx

theorem isB_one {b : Blk} {k n a : Int} {K L : D} (h : IsB b k n a K L) : K.oneC = true ∧ L.oneC = true := by
  cases b
  rw [IsB] at h
  obtain ⟨_, _, _, _, _, _, rows, ⟨_, _, _, h1⟩, _, _, ⟨_, _, _, h2⟩, _⟩ := h
  exact ⟨h1, h2⟩

theorem big_ev : ∀ (b : Blk) {k n a : Int} {K L : D} {m d : Int} {l : Nat} {bx : List Box}, IsB b k n a K L → -1 ≤ m → m ≤ 1000000 → 0 ≤ d → d ≤ 61 → bx[l]? = some [I m] →
    ev cfg (.call 6 [.agg [I k, I n, I a, .dat K, .dat L], .ptr l 0, I d] bx) = some (.ret (B (bigB m d b).1) (some ⟨bx.set l [I (bigB m d b).2], l, false⟩))
  | .mk k n a ks ls, _, _, _, K, L, m, d, l, bx, h, hm, hm2, hd, hd2, hb => by
    rw [IsB] at h
    obtain ⟨rfl, rfl, rfl, _, _, _, rows, hK, hks, hmax, hL, _, _⟩ := h
    have hl : l < bx.length := (List.getElem?_eq_some_iff.1 hb).1
    apply ev_step
    rw [big_first (res := bigB.bigs (m - 1) (d + 1) ks) hK hL hl hb (wrap_lo (by omega) (by omega)) (isBs_len hks) ?_]
    · rw [bigB]; split <;> rfl
    · intro c1 c2 c hc
      have := loop ks (bx := bx.set l [I (m - 1)]) (d := d) (l := l) (m := m - 1) (i := 0) (c := c) hK rfl hks (by rw [(isBs_len hks)]; exact hmax) (by simp at c1; omega) (by omega) hd (by simpa using c2) (by simp [hl]) (by simpa using hc)
      simp only [List.length_set, List.set_set] at this
      exact this
where
  loop : ∀ (bs : List Blk) {rows rs : List (List D)} {K : D} {m d : Int} {l i : Nat} {bx : List Box} {c : Box}, IsS 5 rows K → rows.drop i = rs → IsB.IsBs bs rs → rows.length < 9223372036854775808 → -1 ≤ m → m ≤ 1000000 → 0 ≤ d → d ≤ 60 → bx[l]? = some [I m] → c.all (cellLt (bx.length + 1)) = true →
    ev cfg (.loop 6 5 ⟨(.dead :: .ptr l 0 :: I d :: .dead :: .dead :: .dead :: .dead :: .dead :: .dead :: .dead :: .dead :: .dead :: .dead :: .dead :: .dead :: .dead :: .dead :: .dead :: .dead :: .dead :: .dead :: .dead :: .dead :: .dead :: .dead :: .dead :: .dead :: .dead :: .dead :: .dead :: .dead :: .dead :: .dead :: .dead :: .dead :: .dead :: .dead :: .dead :: .dead :: .dat K :: I rows.length :: I i :: .dead :: .dead :: .dead :: .dead :: .dead :: .dead :: .dead :: .dead :: .dead :: []), bx ++ [c], bx.length, some l, false⟩) =
      some (if (bigB.bigs m (d + 1) bs).1 = true then .loop .ret ⟨(.dead :: .dead :: .dead :: .dead :: .dead :: .dead :: B true :: .dead :: .dead :: .dead :: .dead :: .dead :: .dead :: .dead :: .dead :: .dead :: .dead :: .dead :: .dead :: .dead :: .dead :: .dead :: .dead :: .dead :: .dead :: .dead :: .dead :: .dead :: .dead :: .dead :: .dead :: .dead :: .dead :: .dead :: .dead :: .dead :: .dead :: .dead :: .dead :: .dead :: .dead :: .dead :: .dead :: .dead :: .dead :: .dead :: .dead :: .dead :: .dead :: .dead :: .dead :: []), bx.set l [I (bigB.bigs m (d + 1) bs).2] ++ [c], bx.length, some l, false⟩
      else .loop (.exit 0) ⟨(.dead :: .dead :: .dead :: .dead :: .dead :: .dead :: .dead :: .dead :: .dead :: .dead :: .dead :: .dead :: .dead :: .dead :: .dead :: .dead :: .dead :: .dead :: .dead :: .dead :: .dead :: .dead :: .dead :: .dead :: .dead :: .dead :: .dead :: .dead :: .dead :: .dead :: .dead :: .dead :: .dead :: .dead :: .dead :: .dead :: .dead :: .dead :: .dead :: .dead :: .dead :: .dead :: .dead :: .dead :: .dead :: .dead :: .dead :: .dead :: .dead :: .dead :: .dead :: []), bx.set l [I (bigB.bigs m (d + 1) bs).2] ++ [c], bx.length, some l, false⟩)
  | [], rows, rs, K, m, d, l, i, bx, c, hK, hr, hbs, hmax, hm, hm2, hd, hd2, hb, hc => by
    have hl : l < bx.length := (List.getElem?_eq_some_iff.1 hb).1
    rw [IsB.IsBs] at hbs
    subst hbs
    simp only [bigB.bigs, Bool.false_eq_true, if_false]
    apply ev_step
    rw [big_end hl hc (drop_nil hr), set_same hb]
  | b :: bs, rows, rs, K, m, d, l, i, bx, c, hK, hr, hbs, hmax, hm, hm2, hd, hd2, hb, hc => by
    have hl : l < bx.length := (List.getElem?_eq_some_iff.1 hb).1
    rw [IsB.IsBs] at hbs
    obtain ⟨k, n, a, K', L', rest, rfl, hB, hrest⟩ := hbs
    obtain ⟨hget, hr', hlt⟩ := drop_cons hr
    have hb1 := fun (bx' : List Box) (h : bx'[l]? = some [I m]) (_ : l < bx'.length) => big_ev b (d := d + 1) hB hm hm2 (by omega) (by omega) h
    have hst := big_round (res := bigB m (d + 1) b) (d := d) hK hl hb hc hget hlt hmax (wrap_lo (by omega) (by omega)) (isB_one hB).1 (isB_one hB).2 hb1
    rw [bigB.bigs]
    by_cases hres : (bigB m (d + 1) b).1 = true
    · rw [if_pos hres] at hst
      rw [if_pos hres, if_pos rfl]
      exact ev_step cfg hst
    · rw [if_neg hres] at hst
      rw [if_neg hres]
      have hge := bigB_ge b m (d + 1)
      have := loop bs (bx := bx.set l [I (bigB m (d + 1) b).2]) (l := l) (m := (bigB m (d + 1) b).2) (i := i + 1) (d := d) (c := c) hK hr' hrest hmax (bigB_lo b m (d + 1) hres) (by omega) hd hd2 (by simp [hl]) (by simpa using hc)
      simp only [List.length_set, List.set_set] at this
      exact ev_step cfg (hst.trans this)

end Go.Proofs.YtifckjhggamefaaDoor
namespace Go.Proofs.YtifckjhggamefaaDoor
open Go Go.Vx
set_option maxHeartbeats 4000000
set_option maxRecDepth 10000

section
variable {bx : List Box} {c : Box} {rows : List (List D)} {K L : D} {lr : List (List D)} {i : Nat} {k n a : Int} {K' L' : D}

end

end Go.Proofs.YtifckjhggamefaaDoor
namespace Go.Proofs.YtifckjhggamefaaDoor
open Go Go.Vx
set_option maxHeartbeats 4000000
set_option maxRecDepth 10000

section
variable {bx : List Box} {c : Box} {rows : List (List D)} {K L : D} {lr : List (List D)} {i : Nat} {k n a : Int} {K' L' : D}

end

end Go.Proofs.YtifckjhggamefaaDoor
namespace Go.Proofs.YtifckjhggamefaaDoor
open Go Go.Vx
set_option maxHeartbeats 4000000
set_option maxRecDepth 10000

section
variable {bx : List Box} {c : Box} {rows rows2 : List (List D)} {K L K2 L2 : D} {lr lr2 : List (List D)} {i : Nat} {k n a k2 n2 a2 : Int} {K' L' K2' L2' : D}

theorem r41 {x : Bool} {f t w f2 t2 w2 : Int} (hL : IsS 3 lr L) (hL2 : IsS 3 lr2 L2) (hget : lr[i]? = some [dI f, dI t, dI w]) (hget2 : lr2[i]? = some [dI f2, dI t2, dI w2]) (hlt : i < lr.length) (hmax : lr.length < 9223372036854775808) (hx : (f == f2 && (t == t2 && w == w2)) = x) :
    stepJ (ev cfg) cfg (.loop 25 4 ⟨(.dat L :: .dat L2 :: .dead :: .dead :: .dead :: .dead :: .dead :: .dead :: .dead :: .dead :: .dead :: .dead :: I lr.length :: I i :: .dead :: .dead :: .dead :: .dead :: .dead :: .dead :: .dead :: .dead :: .dead :: .dead :: .dead :: .dead :: []), bx, bx.length, none, false⟩) =
      if x = true then ev cfg (.loop 25 4 ⟨(.dat L :: .dat L2 :: .dead :: .dead :: .dead :: .dead :: .dead :: .dead :: .dead :: .dead :: .dead :: .dead :: I lr.length :: I ((i + 1 : Nat) : Int) :: .dead :: .dead :: .dead :: .dead :: .dead :: .dead :: .dead :: .dead :: .dead :: .dead :: .dead :: .dead :: []), bx, bx.length, none, false⟩)
      else some (.loop .ret ⟨(.dead :: .dead :: .dead :: .dead :: B false :: .dead :: .dead :: .dead :: .dead :: .dead :: .dead :: .dead :: .dead :: .dead :: .dead :: .dead :: .dead :: .dead :: .dead :: .dead :: .dead :: .dead :: .dead :: .dead :: .dead :: .dead :: []), bx, bx.length, none, false⟩) := by
  obtain ⟨w', h1, h2, h3⟩ := hL
  obtain rfl := isS_w h2 hget
  obtain ⟨w2', g1, g2, g3⟩ := hL2
  obtain rfl := isS_w g2 hget2
  cases x <;> simp (maxSteps := 2000000) only [go_sem, Nat.reduceSub, Nat.reduceAdd, Nat.reduceMul, Nat.reduceLT, Nat.reduceLeDiff, Nat.reduceBEq, Nat.reduceEqDiff, Nat.reduceGT, Int.reduceToNat, Int.reduceLT, Int.reduceNeg, Int.reduceEq, Int.reduceBEq, Int.reduceBNe, Int.reduceLE, Int.reduceGT, Int.reduceGE, Int.reduceNe, Int.reduceAdd, Int.reduceSub, Int.reduceMul, reduceIte, ↓reduceIte, fn25, cx25, Tryd.f25, ti3, ti27, ti70, h1, h3, g1, g3, nat_lt hlt, nat_neg, Int.toNat_natCast, hget, hget2, hx, nat_succ hlt hmax, Nat.min_self, List.take_length, List.drop_length, Nat.le_refl, Nat.sub_self]

end

end Go.Proofs.YtifckjhggamefaaDoor
namespace Go.Proofs.YtifckjhggamefaaDoor
open Go Go.Vx
set_option maxHeartbeats 4000000
set_option maxRecDepth 10000

section
variable {bx : List Box} {c : Box} {rows : List (List D)} {K : D} {i : Nat} {op n : Int} {K' : D}

end

end Go.Proofs.YtifckjhggamefaaDoor
namespace Go.Proofs.YtifckjhggamefaaDoor
open Go Go.Vx
set_option maxHeartbeats 4000000
set_option maxRecDepth 10000

section
variable {bx : List Box} {c : Box} {rows : List (List D)} {K : D} {i : Nat} {op n : Int} {K' : D}

end

end Go.Proofs.YtifckjhggamefaaDoor
