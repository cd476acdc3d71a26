/- What the blocks' functions answer: depth, size, wrong, texts. No condition. -/
import Derived.Test.YtgppmcpbphgnnaaDoorB3
import Derived.Test.YtgppmcpbphgnnaaDoorB4
import Derived.Test.YtgppmcpbphgnnaaDoorB5
import Derived.Test.YtgppmcpbphgnnaaDoorB6
set_option linter.unusedSimpArgs false
set_option linter.unusedVariables false
set_option linter.unusedSectionVars false
namespace Go.Proofs.YtgppmcpbphgnnaaDoor
open Go Go.Vx
set_option maxRecDepth 10000

/-! ### what they say of a tree -/
def sizeB : Blk → Int
  | .mk _ _ _ ks _ => 1 + go ks
where
  go : List Blk → Int
  | [] => 0
  | b :: bs => sizeB b + go bs

def deepB : Blk → Int
  | .mk _ _ _ ks _ => go 0 ks + 1
where
  go (m : Int) : List Blk → Int
  | [] => m
  | b :: bs => go (if m < deepB b then deepB b else m) bs

def badL (x : Int × Int × Int) : Bool := decide (x.1 < -1) || decide (x.2.1 < -1) || decide (x.2.2 < -1)
def badOne : Blk → Bool
  | .mk k n a _ ls => decide (k < 1) || decide (k > 10) || decide (n < 0) || decide (a < 0) || ls.any badL
def badB : Blk → Bool
  | .mk k n a ks ls => badOne (.mk k n a ks ls) || go ks
where
  go : List Blk → Bool
  | [] => false
  | b :: bs => badB b || go bs

theorem sizeB_pos : ∀ b, 1 ≤ sizeB b
  | .mk _ _ _ ks _ => by rw [sizeB]; have := go ks; omega
where
  go : ∀ bs, 0 ≤ sizeB.go bs
  | [] => by rw [sizeB.go]; omega
  | b :: bs => by rw [sizeB.go]; have := sizeB_pos b; have := go bs; omega

theorem deepB_le : ∀ b, 1 ≤ deepB b ∧ deepB b ≤ sizeB b
  | .mk _ _ _ ks _ => by rw [sizeB, deepB]; have := go ks 0 (by omega); omega
where
  go : ∀ (bs : List Blk) (m : Int), 0 ≤ m → m ≤ deepB.go m bs ∧ deepB.go m bs ≤ m + sizeB.go bs
  | [], m, h => by rw [sizeB.go, deepB.go]; omega
  | b :: bs, m, h => by
    rw [sizeB.go, deepB.go]
    have h1 := deepB_le b
    have h2 := sizeB_pos.go bs
    split
    · have := go bs (deepB b) (by omega); omega
    · have := go bs m h; omega

/-! ### what is gone through is small -/
theorem bigB_size : ∀ (b : Blk) (m d : Int), ¬ (bigB m d b).1 = true → sizeB b ≤ m - (bigB m d b).2
  | .mk k n a ks ls, m, d, h => by
    rw [bigB] at h ⊢
    split at h
    · exact absurd rfl h
    · rename_i hc
      rw [if_neg hc, sizeB]
      have := go ks (m - 1) (d + 1) h
      omega
where
  go : ∀ (bs : List Blk) (m d : Int), ¬ (bigB.bigs m d bs).1 = true → sizeB.go bs ≤ m - (bigB.bigs m d bs).2
  | [], m, d, _ => by rw [sizeB.go, bigB.bigs]; show 0 ≤ m - m; omega
  | b :: bs, m, d, h => by
    rw [bigB.bigs] at h ⊢
    split at h
    · exact absurd rfl h
    · rename_i hc
      rw [if_neg hc, sizeB.go]
      have h1 := bigB_size b m d hc
      have h2 := go bs _ d h
      omega

/-! ### the functions -/
theorem isB_K {b : Blk} {k n a : Int} {K L : D} (h : IsB b k n a K L) : (∃ r, IsS 5 r K) ∧ ∃ r, IsS 3 r L := by
  cases b
  rw [IsB] at h
  obtain ⟨_, _, _, _, _, _, rows, h1, _, _, h2, _⟩ := h
  exact ⟨⟨_, h1⟩, ⟨_, h2⟩⟩

theorem deep_ev : ∀ (b : Blk) {k n a : Int} {K L : D}, IsB b k n a K L → sizeB b ≤ 1000000 → ∀ bx : List Box, ev cfg (.call 57 [.agg [I k, I n, I a, .dat K, .dat L]] bx) = some (.ret (I (deepB b)) none)
  | .mk k n a ks ls, _, _, _, K, L, h, hz, bx => by
    rw [IsB] at h
    obtain ⟨rfl, rfl, rfl, _, _, _, rows, hK, hks, hmax, hL, _, _⟩ := h
    have hd := deepB_le.go ks 0 (by omega)
    rw [sizeB] at hz
    rw [deepB]
    exact ev_step cfg (f57 hK hL (wrap_lo (by omega) (by omega)) fun c hc => loop ks (i := 0) (m := 0) hK rfl hks (by rw [isBs_len hks]; exact hmax) (by omega) hc)
where
  loop : ∀ (bs : List Blk) {rows rs : List (List D)} {K : D} {m : Int} {i : Nat} {bx : List Box} {c : Box}, IsS 5 rows K → rows.drop i = rs → IsB.IsBs bs rs → rows.length < 9223372036854775808 → sizeB.go bs ≤ 1000000 → c.all (cellLt (bx.length + 1)) = true →
    ev cfg (.loop 57 3 ⟨(.dead :: .dead :: .dead :: I m :: .dead :: .dead :: .dead :: .dat K :: I rows.length :: I i :: .dead :: .dead :: .dead :: .dead :: .dead :: .dead :: .dead :: .dead :: .dead :: .dead :: []), bx ++ [c], bx.length, none, false⟩) = some (.loop (.exit 0) ⟨(.dead :: .dead :: .dead :: I (deepB.go m bs) :: .dead :: .dead :: .dead :: .dead :: .dead :: .dead :: .dead :: .dead :: .dead :: .dead :: .dead :: .dead :: .dead :: .dead :: .dead :: .dead :: []), bx ++ [c], bx.length, none, false⟩)
  | [], rows, rs, K, m, i, bx, c, hK, hr, hbs, hmax, hz, hc => by
    rw [IsB.IsBs] at hbs
    subst hbs
    rw [deepB.go]
    exact ev_step cfg (e57 hc (drop_nil hr))
  | b :: bs, rows, rs, K, m, i, bx, c, hK, hr, hbs, hmax, hz, hc => by
    rw [IsB.IsBs] at hbs
    obtain ⟨k, n, a, K', L', rest, rfl, hB, hrest⟩ := hbs
    obtain ⟨hget, hr', hlt⟩ := drop_cons hr
    rw [sizeB.go] at hz
    have p1 := sizeB_pos b
    have p2 := sizeB_pos.go bs
    rw [deepB.go]
    exact ev_step cfg ((r57 hK hc hget hlt hmax (isB_one hB).1 (isB_one hB).2 (deep_ev b hB (by omega))).trans (loop bs (i := i + 1) hK hr' hrest hmax (by omega) hc))

theorem depth_ev : ∀ (b : Blk) {k n a : Int} {K L : D}, IsB b k n a K L → sizeB b ≤ 1000000 → ∀ bx : List Box, ev cfg (.call 36 [.agg [I k, I n, I a, .dat K, .dat L]] bx) = some (.ret (I (deepB b)) none)
  | .mk k n a ks ls, _, _, _, K, L, h, hz, bx => by
    rw [IsB] at h
    obtain ⟨rfl, rfl, rfl, _, _, _, rows, hK, hks, hmax, hL, _, _⟩ := h
    have hd := deepB_le.go ks 0 (by omega)
    rw [sizeB] at hz
    rw [deepB]
    exact ev_step cfg (f36 hK hL (wrap_lo (by omega) (by omega)) fun c hc => loop ks (i := 0) (m := 0) hK rfl hks (by rw [isBs_len hks]; exact hmax) (by omega) hc)
where
  loop : ∀ (bs : List Blk) {rows rs : List (List D)} {K : D} {m : Int} {i : Nat} {bx : List Box} {c : Box}, IsS 5 rows K → rows.drop i = rs → IsB.IsBs bs rs → rows.length < 9223372036854775808 → sizeB.go bs ≤ 1000000 → c.all (cellLt (bx.length + 1)) = true →
    ev cfg (.loop 36 3 ⟨(.dead :: .dead :: .dead :: I m :: .dead :: .dead :: .dead :: .dead :: .dat K :: I rows.length :: I i :: .dead :: .dead :: .dead :: .dead :: .dead :: .dead :: .dead :: .dead :: .dead :: .dead :: .dead :: .dead :: []), bx ++ [c], bx.length, none, false⟩) = some (.loop (.exit 0) ⟨(.dead :: .dead :: .dead :: I (deepB.go m bs) :: .dead :: .dead :: .dead :: .dead :: .dead :: .dead :: .dead :: .dead :: .dead :: .dead :: .dead :: .dead :: .dead :: .dead :: .dead :: .dead :: .dead :: .dead :: .dead :: []), bx ++ [c], bx.length, none, false⟩)
  | [], rows, rs, K, m, i, bx, c, hK, hr, hbs, hmax, hz, hc => by
    rw [IsB.IsBs] at hbs
    subst hbs
    rw [deepB.go]
    exact ev_step cfg (e36 hc (drop_nil hr))
  | b :: bs, rows, rs, K, m, i, bx, c, hK, hr, hbs, hmax, hz, hc => by
    rw [IsB.IsBs] at hbs
    obtain ⟨k, n, a, K', L', rest, rfl, hB, hrest⟩ := hbs
    obtain ⟨hget, hr', hlt⟩ := drop_cons hr
    rw [sizeB.go] at hz
    have p1 := sizeB_pos b
    have p2 := sizeB_pos.go bs
    rw [deepB.go]
    exact ev_step cfg ((r36 hK hc hget hlt hmax (isB_one hB).1 (isB_one hB).2 (depth_ev b hB (by omega))).trans (loop bs (i := i + 1) hK hr' hrest hmax (by omega) hc))

theorem rsize_ev : ∀ (b : Blk) {k n a : Int} {K L : D}, IsB b k n a K L → sizeB b ≤ 1000000 → ∀ bx : List Box, ev cfg (.call 16 [.agg [I k, I n, I a, .dat K, .dat L]] bx) = some (.ret (I (sizeB b)) none)
  | .mk k n a ks ls, _, _, _, K, L, h, hz, bx => by
    rw [IsB] at h
    obtain ⟨rfl, rfl, rfl, _, _, _, rows, hK, hks, hmax, hL, _, _⟩ := h
    rw [sizeB] at hz ⊢
    exact ev_step cfg (f16 hK hL fun c hc => loop ks (i := 0) (m := 1) hK rfl hks (by rw [isBs_len hks]; exact hmax) (by omega) (by omega) hc)
where
  loop : ∀ (bs : List Blk) {rows rs : List (List D)} {K : D} {m : Int} {i : Nat} {bx : List Box} {c : Box}, IsS 5 rows K → rows.drop i = rs → IsB.IsBs bs rs → rows.length < 9223372036854775808 → 0 ≤ m → m + sizeB.go bs ≤ 1000000 → c.all (cellLt (bx.length + 1)) = true →
    ev cfg (.loop 16 3 ⟨(.dead :: .dead :: .dead :: I m :: .dead :: .dead :: .dead :: .dat K :: I rows.length :: I i :: .dead :: .dead :: .dead :: .dead :: .dead :: .dead :: .dead :: .dead :: .dead :: []), bx ++ [c], bx.length, none, false⟩) = some (.loop (.exit 0) ⟨(.dead :: .dead :: .dead :: I (m + sizeB.go bs) :: .dead :: .dead :: .dead :: .dead :: .dead :: .dead :: .dead :: .dead :: .dead :: .dead :: .dead :: .dead :: .dead :: .dead :: .dead :: []), bx ++ [c], bx.length, none, false⟩)
  | [], rows, rs, K, m, i, bx, c, hK, hr, hbs, hmax, hm, hz, hc => by
    rw [IsB.IsBs] at hbs
    subst hbs
    rw [sizeB.go, Int.add_zero]
    exact ev_step cfg (e16 hc (drop_nil hr))
  | b :: bs, rows, rs, K, m, i, bx, c, hK, hr, hbs, hmax, hm, hz, hc => by
    rw [IsB.IsBs] at hbs
    obtain ⟨k, n, a, K', L', rest, rfl, hB, hrest⟩ := hbs
    obtain ⟨hget, hr', hlt⟩ := drop_cons hr
    rw [sizeB.go] at hz
    have p1 := sizeB_pos b
    have p2 := sizeB_pos.go bs
    rw [sizeB.go, ← Int.add_assoc]
    exact ev_step cfg ((r16 hK hc hget hlt hmax (isB_one hB).1 (isB_one hB).2 (wrap_lo (by omega) (by omega)) (rsize_ev b hB (by omega))).trans (loop bs (i := i + 1) hK hr' hrest hmax (by omega) (by omega) hc))

/-! ### each -/
def eachB {σ : Type} (st : Blk → σ → σ) : Blk → σ → σ
  | .mk k n a ks ls, x => go ks (st (.mk k n a ks ls) x)
where
  go : List Blk → σ → σ
  | [], x => x
  | b :: bs, x => go bs (eachB st b x)

theorem each_ev {σ : Type} (em : σ → Box) (st : Blk → σ → σ) (g : FuncId) (l : Nat)
    (hg : ∀ (b : Blk) (k n a : Int) (K L : D) (x : σ) (bx : List Box), IsB b k n a K L → bx[l]? = some (em x) → ev cfg (.call g [.agg [I k, I n, I a, .dat K, .dat L], .ptr l 0] bx) = some (.ret (.tup []) (some ⟨bx.set l (em (st b x)), l, false⟩))) :
    ∀ (b : Blk) {k n a : Int} {K L : D} {x : σ} {bx : List Box}, IsB b k n a K L → bx[l]? = some (em x) → ev cfg (.call 39 [.agg [I k, I n, I a, .dat K, .dat L], .clo g [l]] bx) = some (.ret (.tup []) (some ⟨bx.set l (em (eachB st b x)), l, false⟩))
  | .mk _ _ _ ks ls, k, n, a, K, L, x, bx, h, hb => by
    have h0 := h
    rw [IsB] at h
    obtain ⟨rfl, rfl, rfl, _, _, _, rows, hK, hks, hmax, hL, _, _⟩ := h
    have hl : l < bx.length := (List.getElem?_eq_some_iff.1 hb).1
    rw [eachB]
    refine ev_step cfg (f39 hK hL hl hb (fun bx' hb' => hg _ _ _ _ _ _ x bx' h0 hb') fun c hc => ?_)
    have := loop ks (bx := bx.set l (em (st (.mk k n a ks ls) x))) (x := st (.mk k n a ks ls) x) (i := 0) (c := c) hK rfl hks (by rw [isBs_len hks]; exact hmax) (by simp [hl]) (by simpa using hc) (some l) (.inr rfl) (.inl rfl)
    simp only [List.length_set, List.set_set] at this
    exact this
where
  loop : ∀ (bs : List Blk) {rows rs : List (List D)} {K : D} {x : σ} {i : Nat} {bx : List Box} {c : Box}, IsS 5 rows K → rows.drop i = rs → IsB.IsBs bs rs → rows.length < 9223372036854775808 → bx[l]? = some (em x) → c.all (cellLt (bx.length + 1)) = true → ∀ lo : Option Nat, lo = none ∨ lo = some l → (lo = some l ∨ bs ≠ []) →
    ev cfg (.loop 39 3 ⟨(.dead :: .clo g [l] :: .dead :: .dead :: .dead :: .dead :: .dead :: .dead :: .dead :: .dead :: .dat K :: I rows.length :: I i :: .dead :: .dead :: .dead :: .dead :: .dead :: .dead :: .dead :: []), bx ++ [c], bx.length, lo, false⟩) = some (.loop (.exit 0) ⟨(.dead :: .dead :: .dead :: .dead :: .dead :: .dead :: .dead :: .dead :: .dead :: .dead :: .dead :: .dead :: .dead :: .dead :: .dead :: .dead :: .dead :: .dead :: .dead :: .dead :: []), bx.set l (em (eachB.go st bs x)) ++ [c], bx.length, some l, false⟩)
  | [], rows, rs, K, x, i, bx, c, hK, hr, hbs, hmax, hb, hc, lo, hlo, hne => by
    have hl : l < bx.length := (List.getElem?_eq_some_iff.1 hb).1
    rw [IsB.IsBs] at hbs
    subst hbs
    rw [eachB.go, set_same hb]
    rcases hne with rfl | h
    · exact ev_step cfg (e39 hl hc (drop_nil hr) _)
    · exact absurd rfl h
  | b :: bs, rows, rs, K, x, i, bx, c, hK, hr, hbs, hmax, hb, hc, lo, hlo, _ => by
    have hl : l < bx.length := (List.getElem?_eq_some_iff.1 hb).1
    rw [IsB.IsBs] at hbs
    obtain ⟨k, n, a, K', L', rest, rfl, hB, hrest⟩ := hbs
    obtain ⟨hget, hr', hlt⟩ := drop_cons hr
    rw [eachB.go]
    have h1 := r39 (g := g) hK hl hb hc hget hlt hmax (isB_one hB).1 (isB_one hB).2 lo hlo fun bx' hb' => each_ev em st g l hg b hB hb'
    have h2 := loop bs (bx := bx.set l (em (eachB st b x))) (x := eachB st b x) (i := i + 1) (c := c) hK hr' hrest hmax (by simp [hl]) (by simpa using hc) (some l) (.inr rfl) (.inl rfl)
    simp only [List.length_set, List.set_set] at h2
    exact ev_step cfg (h1.trans h2)

end Go.Proofs.YtgppmcpbphgnnaaDoor
