/- The law's function answers true, whatever the block. No condition. -/
import Derived.Test.YtgppmcpbphgnnaaDoorB13
import Derived.Test.YtgppmcpbphgnnaaDoorB14
set_option linter.unusedSimpArgs false
set_option linter.unusedVariables false
set_option linter.unusedSectionVars false
namespace Go.Proofs.YtgppmcpbphgnnaaDoor
open Go Go.Vx
set_option maxRecDepth 10000
set_option maxHeartbeats 1000000

/-- no links in it -/
def noL : Blk → Prop
  | .mk _ _ _ ks ls => ls = [] ∧ go ks
where
  go : List Blk → Prop
  | [] => True
  | b :: bs => noL b ∧ go bs

theorem bne_self' (n : Int) : (n != n) = false := by simp

theorem self_ev : ∀ (b : Blk) {k n a : Int} {K L : D}, IsB b k n a K L → noL b → ∀ bx : List Box, ev cfg (.call 17 [.agg [I k, I n, I a, .dat K, .dat L], .agg [I k, I n, I a, .dat K, .dat L]] bx) = some (.ret (B true) none)
  | .mk _ _ _ ks ls, k, n, a, K, L, h, hno, bx => by
    rw [IsB] at h
    obtain ⟨rfl, rfl, rfl, ik, hn, ha, rows, hK, hks, hmax, hL, hlm, hx⟩ := h
    rw [noL] at hno
    obtain ⟨rfl, hno⟩ := hno
    have h1 : ∀ bx : List Box, ev cfg (.call 41 [.dat L, .dat L] bx) = some (.ret (B true) none) := fun bx => ev_step cfg (f41 (x := true) hL hL (bne_self' _) (ev_step cfg (by exact e41 (i := 0) (Nat.le_refl 0))))
    have h2 : ∀ bx : List Box, ev cfg (.call 42 [.dat K, .dat K, .clo 17 []] bx) = some (.ret (B true) none) := fun bx => ev_step cfg (f42 (x := true) hK hK (bne_self' _) (loop ks (i := 0) hK rfl hks (by rw [isBs_len hks]; exact hmax) hno))
    have := f17 (bx := bx) (k := k) (n := n) (a := a) (k2 := k) (n2 := n) (a2 := a) hK hL hK hL h1 h2
    rw [BEq.rfl, BEq.rfl, BEq.rfl] at this
    exact ev_step cfg this
where
  loop : ∀ (bs : List Blk) {rows rs : List (List D)} {K : D} {i : Nat} {bx : List Box}, IsS 5 rows K → rows.drop i = rs → IsB.IsBs bs rs → rows.length < 9223372036854775808 → noL.go bs →
    ev cfg (.loop 42 4 ⟨(.dead :: .dat K :: .clo 17 [] :: .dead :: .dead :: .dead :: .dead :: .dead :: .dead :: .dead :: .dead :: .dead :: .dead :: .dead :: .dead :: .dat K :: I rows.length :: I i :: .dead :: .dead :: .dead :: .dead :: .dead :: .dead :: .dead :: .dead :: .dead :: .dead :: .dead :: .dead :: .dead :: .dead :: []), bx, bx.length, none, false⟩) = some (.loop (.exit 0) ⟨(.dead :: .dead :: .dead :: .dead :: .dead :: .dead :: .dead :: .dead :: .dead :: .dead :: .dead :: .dead :: .dead :: .dead :: .dead :: .dead :: .dead :: .dead :: .dead :: .dead :: .dead :: .dead :: .dead :: .dead :: .dead :: .dead :: .dead :: .dead :: .dead :: .dead :: .dead :: .dead :: []), bx, bx.length, none, false⟩)
  | [], rows, rs, K, i, bx, hK, hr, hbs, hmax, hno => by
    rw [IsB.IsBs] at hbs
    subst hbs
    exact ev_step cfg (e42 (drop_nil hr))
  | b :: bs, rows, rs, K, i, bx, hK, hr, hbs, hmax, hno => by
    rw [IsB.IsBs] at hbs
    obtain ⟨k, n, a, K', L', rest, rfl, hB, hrest⟩ := hbs
    obtain ⟨hget, hr', hlt⟩ := drop_cons hr
    rw [noL.go] at hno
    have h1 := r42 (bx := bx) (x := true) hK hK hget hget hlt hmax (isB_one hB).1 (isB_one hB).2 (isB_one hB).1 (isB_one hB).2 (self_ev b hB hno.1)
    rw [if_pos rfl] at h1
    exact ev_step cfg (h1.trans (loop bs (i := i + 1) hK hr' hrest hmax hno.2))

def altB : Blk := .mk 3 0 0 [.mk 2 1 0 [] [], .mk 5 2 0 [.mk 2 3 0 [] [], .mk 1 0 0 [] []] []] []
theorem i64s {n : Int} (h : -9223372036854775808 ≤ n) (h2 : n ≤ 9223372036854775807) : i64 n := ⟨h, h2⟩
theorem i64d' {n : Int} (h : decide (-9223372036854775808 ≤ n) = true) (h2 : decide (n ≤ 9223372036854775807) = true) : i64 n := ⟨of_decide_eq_true h, of_decide_eq_true h2⟩
theorem isB_leaf (k n a : Int) (hk : i64 k) (hn : i64 n) (ha : i64 a) : IsB (.mk k n a [] []) k n a .nil .nil := by
  rw [IsB]
  exact ⟨rfl, rfl, rfl, hk, hn, ha, [], isS_nil 5, by rw [IsB.IsBs], by simp, isS_nil 3, by simp, fun x hx => by cases hx⟩
theorem isB_two {b1 b2 : Blk} {k1 n1 a1 k2 n2 a2 : Int} {K1 L1 K2 L2 : D} (k n a : Int) (hk : i64 k) (hn : i64 n) (ha : i64 a) (h1 : IsB b1 k1 n1 a1 K1 L1) (h2 : IsB b2 k2 n2 a2 K2 L2) :
    IsB (.mk k n a [b1, b2] []) k n a (.sl 5 [[dI k1, dI n1, dI a1, K1, L1], [dI k2, dI n2, dI a2, K2, L2]]) .nil := by
  rw [IsB]
  refine ⟨rfl, rfl, rfl, hk, hn, ha, _, isS_sl 5 _, ?_, by simp, isS_nil 3, by simp, fun x hx => by cases hx⟩
  rw [IsB.IsBs]
  refine ⟨_, _, _, _, _, _, rfl, h1, ?_⟩
  rw [IsB.IsBs]
  exact ⟨_, _, _, _, _, _, rfl, h2, by rw [IsB.IsBs]⟩
theorem altB_is : IsB altB 3 0 0 altK .nil :=
  isB_two 3 0 0 (i64d' rfl rfl) (i64d' rfl rfl) (i64d' rfl rfl) (isB_leaf 2 1 0 (i64d' rfl rfl) (i64d' rfl rfl) (i64d' rfl rfl)) (isB_two 5 2 0 (i64d' rfl rfl) (i64d' rfl rfl) (i64d' rfl rfl) (isB_leaf 2 3 0 (i64d' rfl rfl) (i64d' rfl rfl) (i64d' rfl rfl)) (isB_leaf 1 0 0 (i64d' rfl rfl) (i64d' rfl rfl) (i64d' rfl rfl)))

theorem altB_ok : okB altB := by simp [altB, okB, okB.go]
theorem altB_noL : noL altB := by simp [altB, noL, noL.go]
theorem altB_size : sizeB altB = 5 := by simp [altB, sizeB, sizeB.go]
theorem altB_deep : deepB altB = 3 := by simp [altB, deepB, deepB.go]
theorem altB_bad : badB altB = false := by simp [altB, badB, badB.go, badOne]
theorem digN_small {n : Nat} (h : n < 10) : digN n = chr n := by rw [digN, if_pos h]
theorem altB_text : textB altB = ⟨#[40, 115, 101, 113, 32, 49, 32, 40, 97, 108, 116, 58, 50, 32, 51, 32, 45, 41, 41]⟩ := by
  have e1 : dig 1 = ⟨#[49]⟩ := by rw [dig, if_neg (by decide)]; show digN 1 = _; rw [digN_small (by decide)]; rfl
  have e2 : dig 2 = ⟨#[50]⟩ := by rw [dig, if_neg (by decide)]; show digN 2 = _; rw [digN_small (by decide)]; rfl
  have e3 : dig 3 = ⟨#[51]⟩ := by rw [dig, if_neg (by decide)]; show digN 3 = _; rw [digN_small (by decide)]; rfl
  simp [altB, textB, textB.go, headT, nmB, e1, e2, e3]
  decide
theorem altB_out : outT altB = (⟨#[40, 115, 101, 113, 32, 49, 32, 40, 97, 108, 116, 58, 50, 32, 51, 32, 45, 41, 41]⟩, 0) := by
  simp [outT, longB, altB_size, altB_deep, altB_bad, altB_text]

theorem alt_ev (bx : List Box) : ev cfg (.call 11 [] bx) = some (.ret (B true) none) := by
  have ht := Text_ev altB altB_is altB_ok (by rw [altB_size]; decide)
  have hz := size_ev altB altB_is (by rw [altB_size]; decide)
  rw [altB_out] at ht
  rw [altB_size] at hz
  exact ev_step cfg (f11 ht hz (self_ev altB altB_is altB_noL))

/-- WHATEVER THE BLOCK: TRUE. -/
theorem blockTexts_ev (b : Blk) {k n a : Int} {K L : D} (h : IsB b k n a K L) : ev cfg (.call 3 [.agg [I k, I n, I a, .dat K, .dat L]] []) = some (.ret (B true) none) := by
  obtain ⟨⟨_, hK⟩, _, hL⟩ := isB_K h
  have hb := fun c : Box => big_ev b (m := 400) (d := 1) (l := 1) (bx := [c, [I 400]]) h (by omega) (by omega) (by omega) (by omega) rfl
  by_cases hbig : (bigB 400 1 b).1 = true
  · simp only [hbig] at hb
    exact ev_step cfg (f3_big hK hL alt_ev hb)
  · have hok := bigB_ok b 400 1 hbig
    have hlo := bigB_lo b 400 1 hbig
    have hsz := bigB_size b 400 1 hbig
    have hz : sizeB b ≤ 1000000 := by omega
    obtain ⟨M, N, hMN, hr⟩ := ref_ev b h hok
    have hbf : (bigB 400 1 b).1 = false := by simpa using hbig
    simp only [hbf] at hb
    exact ev_step cfg (f3 hK hL alt_ev (isB_one hMN).1 (isB_one hMN).2 hb hr (Text_ev b h hok hz) (RText_ev b hMN hok hz) (size_ev b h hz) (rsize_ev b hMN hz))

end Go.Proofs.YtgppmcpbphgnnaaDoor
