/- What 'big' of the law's package answers: the whole. No condition. -/
import Derived.Test.YtgppmcpbphgnnaaDoorB2
set_option linter.unusedSimpArgs false
set_option linter.unusedVariables false
set_option linter.unusedSectionVars false
namespace Go.Proofs.YtgppmcpbphgnnaaDoor
open Go Go.Vx

theorem isB_one {b : Blk} {k n a : Int} {K L : D} (h : IsB b k n a K L) : K.oneC = true ∧ L.oneC = true := by
  cases b
  rw [IsB] at h
  obtain ⟨_, _, _, _, _, _, rows, ⟨_, _, _, h1⟩, _, _, ⟨_, _, _, h2⟩, _⟩ := h
  exact ⟨h1, h2⟩

theorem big_ev : ∀ (b : Blk) {k n a : Int} {K L : D} {m d : Int} {l : Nat} {bx : List Box}, IsB b k n a K L → -1 ≤ m → m ≤ 1000000 → 0 ≤ d → d ≤ 61 → bx[l]? = some [I m] →
    ev cfg (.call 10 [.agg [I k, I n, I a, .dat K, .dat L], .ptr l 0, I d] bx) = some (.ret (B (bigB m d b).1) (some ⟨bx.set l [I (bigB m d b).2], l, false⟩))
  | .mk k n a ks ls, _, _, _, K, L, m, d, l, bx, h, hm, hm2, hd, hd2, hb => by
    rw [IsB] at h
    obtain ⟨rfl, rfl, rfl, _, _, _, rows, hK, hks, hmax, hL, _, _⟩ := h
    have hl : l < bx.length := (List.getElem?_eq_some_iff.1 hb).1
    apply ev_step
    rw [big_first (res := bigB.bigs (m - 1) (d + 1) ks) hK hL hl hb (wrap_lo (by omega) (by omega)) (isBs_len hks) ?_]
    · rw [bigB]; split <;> rfl
    · intro c1 c2 c hc
      have := loop ks (bx := bx.set l [I (m - 1)]) (d := d) (l := l) (m := m - 1) (i := 0) (c := c) hK rfl hks (by rw [(isBs_len hks)]; exact hmax) (by simp at c1; omega) (by omega) hd (by simpa using c2) (by simp [hl]) (by simpa using hc)
      simp only [List.length_set, List.set_set] at this
      exact this
where
  loop : ∀ (bs : List Blk) {rows rs : List (List D)} {K : D} {m d : Int} {l i : Nat} {bx : List Box} {c : Box}, IsS 5 rows K → rows.drop i = rs → IsB.IsBs bs rs → rows.length < 9223372036854775808 → -1 ≤ m → m ≤ 1000000 → 0 ≤ d → d ≤ 60 → bx[l]? = some [I m] → c.all (cellLt (bx.length + 1)) = true →
    ev cfg (.loop 10 5 ⟨(.dead :: .ptr l 0 :: I d :: .dead :: .dead :: .dead :: .dead :: .dead :: .dead :: .dead :: .dead :: .dead :: .dead :: .dead :: .dead :: .dead :: .dead :: .dead :: .dead :: .dead :: .dead :: .dead :: .dead :: .dead :: .dead :: .dead :: .dead :: .dead :: .dead :: .dead :: .dead :: .dead :: .dead :: .dead :: .dead :: .dead :: .dead :: .dead :: .dead :: .dat K :: I rows.length :: I i :: .dead :: .dead :: .dead :: .dead :: .dead :: .dead :: .dead :: .dead :: .dead :: []), bx ++ [c], bx.length, some l, false⟩) =
      some (if (bigB.bigs m (d + 1) bs).1 = true then .loop .ret ⟨(.dead :: .dead :: .dead :: .dead :: .dead :: .dead :: B true :: .dead :: .dead :: .dead :: .dead :: .dead :: .dead :: .dead :: .dead :: .dead :: .dead :: .dead :: .dead :: .dead :: .dead :: .dead :: .dead :: .dead :: .dead :: .dead :: .dead :: .dead :: .dead :: .dead :: .dead :: .dead :: .dead :: .dead :: .dead :: .dead :: .dead :: .dead :: .dead :: .dead :: .dead :: .dead :: .dead :: .dead :: .dead :: .dead :: .dead :: .dead :: .dead :: .dead :: .dead :: []), bx.set l [I (bigB.bigs m (d + 1) bs).2] ++ [c], bx.length, some l, false⟩
      else .loop (.exit 0) ⟨(.dead :: .dead :: .dead :: .dead :: .dead :: .dead :: .dead :: .dead :: .dead :: .dead :: .dead :: .dead :: .dead :: .dead :: .dead :: .dead :: .dead :: .dead :: .dead :: .dead :: .dead :: .dead :: .dead :: .dead :: .dead :: .dead :: .dead :: .dead :: .dead :: .dead :: .dead :: .dead :: .dead :: .dead :: .dead :: .dead :: .dead :: .dead :: .dead :: .dead :: .dead :: .dead :: .dead :: .dead :: .dead :: .dead :: .dead :: .dead :: .dead :: .dead :: .dead :: []), bx.set l [I (bigB.bigs m (d + 1) bs).2] ++ [c], bx.length, some l, false⟩)
  | [], rows, rs, K, m, d, l, i, bx, c, hK, hr, hbs, hmax, hm, hm2, hd, hd2, hb, hc => by
    have hl : l < bx.length := (List.getElem?_eq_some_iff.1 hb).1
    rw [IsB.IsBs] at hbs
    subst hbs
    simp only [bigB.bigs, Bool.false_eq_true, if_false]
    apply ev_step
    rw [big_end hl hc (drop_nil hr), set_same hb]
  | b :: bs, rows, rs, K, m, d, l, i, bx, c, hK, hr, hbs, hmax, hm, hm2, hd, hd2, hb, hc => by
    have hl : l < bx.length := (List.getElem?_eq_some_iff.1 hb).1
    rw [IsB.IsBs] at hbs
    obtain ⟨k, n, a, K', L', rest, rfl, hB, hrest⟩ := hbs
    obtain ⟨hget, hr', hlt⟩ := drop_cons hr
    have hb1 := fun (bx' : List Box) (h : bx'[l]? = some [I m]) (_ : l < bx'.length) => big_ev b (d := d + 1) hB hm hm2 (by omega) (by omega) h
    have hst := big_round (res := bigB m (d + 1) b) (d := d) hK hl hb hc hget hlt hmax (wrap_lo (by omega) (by omega)) (isB_one hB).1 (isB_one hB).2 hb1
    rw [bigB.bigs]
    by_cases hres : (bigB m (d + 1) b).1 = true
    · rw [if_pos hres] at hst
      rw [if_pos hres, if_pos rfl]
      exact ev_step cfg hst
    · rw [if_neg hres] at hst
      rw [if_neg hres]
      have hge := bigB_ge b m (d + 1)
      have := loop bs (bx := bx.set l [I (bigB m (d + 1) b).2]) (l := l) (m := (bigB m (d + 1) b).2) (i := i + 1) (d := d) (c := c) hK hr' hrest hmax (bigB_lo b m (d + 1) hres) (by omega) hd hd2 (by simp [hl]) (by simpa using hc)
      simp only [List.length_set, List.set_set] at this
      exact ev_step cfg (hst.trans this)

end Go.Proofs.YtgppmcpbphgnnaaDoor
