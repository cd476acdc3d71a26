/- What the blocks' functions answer: the conversion, and both texts with what is wrong. No condition. -/
import Derived.Test.YtgppmcpbphgnnaaDoorB12
import Derived.Test.YtgppmcpbphgnnaaDoorB9
set_option linter.unusedSimpArgs false
set_option linter.unusedVariables false
set_option linter.unusedSectionVars false
namespace Go.Proofs.YtgppmcpbphgnnaaDoor
open Go Go.Vx
set_option maxRecDepth 10000
set_option maxHeartbeats 1000000

theorem mkS_one (k : Nat) (xs : List (List D)) : (mkD k xs).oneC = true := by cases xs <;> rfl
theorem mkD_is (k : Nat) (xs : List (List D)) : IsS k xs (mkD k xs) := by
  cases xs with
  | nil => exact isS_nil k
  | cons => exact isS_sl k _
theorem mkS_snoc (k : Nat) (xs : List (List D)) (r : List D) : mkS k (xs ++ [r]) = .own true k (xs ++ [r]) := by cases xs <;> rfl

theorem rlnk_loop : ∀ (ls : List (Int × Int × Int)) {lr acc : List (List D)} {L : D} {i : Nat} {bx : List Box} {c z : Box} {k0 n0 a0 : Int} {Y : PV}, IsS 3 lr L → lr.drop i = ls.map lnkD → lr.length < 9223372036854775808 → c.all (cellLt (bx.length + 3)) = true → z.all (cellLt (bx.length + 3)) = true → cellLt (bx.length + 3) Y = true → acc.length + ls.length ≤ 1000 →
    ev cfg (.loop 12 8 ⟨(.dead :: .dead :: .ptr (bx.length + 1) 0 :: .ptr (bx.length + 2) 0 :: .dead :: .dead :: .dead :: .dead :: .dead :: .dead :: .dead :: .dead :: .dead :: .dead :: .dead :: .dead :: .dead :: .dead :: .dead :: .dead :: .dead :: .dead :: .dead :: .dead :: .dead :: .dead :: .dead :: .dead :: .dead :: .dead :: .dead :: .dat L :: I lr.length :: I i :: .dead :: .dead :: .dead :: .dead :: .dead :: .dead :: .dead :: .dead :: .dead :: .dead :: .dead :: .dead :: .dead :: .dead :: .dead :: .dead :: .dead :: []), bx ++ [c, z, [I k0, I n0, I a0, Y, mkS 3 acc]], bx.length, none, false⟩) =
      some (.loop (.exit 2) ⟨(.dead :: .dead :: .ptr (bx.length + 1) 0 :: .ptr (bx.length + 2) 0 :: .dead :: .dead :: .dead :: .dead :: .dead :: .dead :: .dead :: .dead :: .dead :: .dead :: .dead :: .dead :: .dead :: .dead :: .dead :: .dead :: .dead :: .dead :: .dead :: .dead :: .dead :: .dead :: .dead :: .dead :: .dead :: .dead :: .dead :: .dead :: .dead :: .dead :: .dead :: .dead :: .dead :: .dead :: .dead :: .dead :: .dead :: .dead :: .dead :: .dead :: .dead :: .dead :: .dead :: .dead :: .dead :: .dead :: .dead :: []), bx ++ [c, z, [I k0, I n0, I a0, Y, mkS 3 (acc ++ ls.map lnkD)]], bx.length, none, false⟩)
  | [], lr, acc, L, i, bx, c, z, k0, n0, a0, Y, hL, hr, hmax, hc, hz, hy, hs => by
    rw [List.map_nil, List.append_nil]
    exact ev_step cfg (e12b hc hz hy (by cases acc <;> rfl) (drop_nil hr))
  | x :: ls, lr, acc, L, i, bx, c, z, k0, n0, a0, Y, hL, hr, hmax, hc, hz, hy, hs => by
    rw [List.map_cons] at hr
    obtain ⟨hget, hr', hlt⟩ := drop_cons hr
    rw [List.length_cons] at hs
    have ih := rlnk_loop ls (acc := acc ++ [lnkD x]) (i := i + 1) (bx := bx) (c := c) (z := z) (k0 := k0) (n0 := n0) (a0 := a0) (Y := Y) hL hr' hmax hc hz hy (by simp; omega)
    rw [List.append_assoc, List.singleton_append, ← List.map_cons] at ih
    rw [mkS_snoc] at ih
    cases acc with
    | nil => exact ev_step cfg ((r12bn (f := x.1) (t := x.2.1) (w := x.2.2) hL hc hz hy hget hlt hmax).trans ih)
    | cons y acc => exact ev_step cfg ((r12b (f := x.1) (t := x.2.1) (w := x.2.2) (ls := y :: acc) hL hc hz hy hget hlt hmax (by simp at hs ⊢; omega)).trans ih)

theorem ref_ev : ∀ (b : Blk) {k n a : Int} {K L : D}, IsB b k n a K L → okB b → ∃ M N, IsB b k n a M N ∧ ∀ bx : List Box, ev cfg (.call 12 [.agg [I k, I n, I a, .dat K, .dat L]] bx) = some (.ret (.agg [I k, I n, I a, .dat M, .dat N]) none)
  | .mk _ _ _ ks ls, k, n, a, K, L, h, hok => by
    rw [IsB] at h
    obtain ⟨rfl, rfl, rfl, ik, hn, ha, rows, hK, hks, hmax, hL, hlm, hx⟩ := h
    rw [okB] at hok
    obtain ⟨o1, o2, o3⟩ := hok
    obtain ⟨rows', hr', hloop⟩ := loop ks (i := 0) hK rfl hks (by rw [isBs_len hks]; exact hmax) o3
    refine ⟨mkD 5 rows', mkD 3 (ls.map lnkD), ?_, fun bx => ?_⟩
    · rw [IsB]
      exact ⟨rfl, rfl, rfl, ik, hn, ha, rows', mkD_is _ _, hr', hmax, mkD_is _ _, hlm, hx⟩
    · exact ev_step cfg (f12 (ks := rows') (ls := ls.map lnkD) hK hL (fun c z hc hz => hloop [] bx c z k n a (by simp; omega) hc hz) fun c z hc hz => rlnk_loop ls (acc := []) (i := 0) hL rfl (by simpa using hlm) hc hz (by cases rows' <;> rfl) (by simp; omega))
where
  loop : ∀ (bs : List Blk) {rows rs : List (List D)} {K : D} {i : Nat}, IsS 5 rows K → rows.drop i = rs → IsB.IsBs bs rs → rows.length < 9223372036854775808 → okB.go bs → ∃ rows', IsB.IsBs bs rows' ∧ ∀ (acc : List (List D)) (bx : List Box) (c z : Box) (k0 n0 a0 : Int), acc.length + bs.length ≤ 1000 → c.all (cellLt (bx.length + 3)) = true → z.all (cellLt (bx.length + 3)) = true →
    ev cfg (.loop 12 3 ⟨(.dead :: .ptr bx.length 0 :: .ptr (bx.length + 1) 0 :: .ptr (bx.length + 2) 0 :: .dead :: .dead :: .dead :: .dead :: .dead :: .dead :: .dead :: .dead :: .dead :: .dead :: .dead :: .dead :: .dat K :: I rows.length :: I i :: .dead :: .dead :: .dead :: .dead :: .dead :: .dead :: .dead :: .dead :: .dead :: .dead :: .dead :: .dead :: .dead :: .dead :: .dead :: .dead :: .dead :: .dead :: .dead :: .dead :: .dead :: .dead :: .dead :: .dead :: .dead :: .dead :: .dead :: .dead :: .dead :: .dead :: .dead :: .dead :: []), bx ++ [c, z, [I k0, I n0, I a0, mkS 5 acc, .dat .nil]], bx.length, none, false⟩) =
      some (.loop (.exit 0) ⟨(.dead :: .ptr bx.length 0 :: .ptr (bx.length + 1) 0 :: .ptr (bx.length + 2) 0 :: .dead :: .dead :: .dead :: .dead :: .dead :: .dead :: .dead :: .dead :: .dead :: .dead :: .dead :: .dead :: .dead :: .dead :: .dead :: .dead :: .dead :: .dead :: .dead :: .dead :: .dead :: .dead :: .dead :: .dead :: .dead :: .dead :: .dead :: .dead :: .dead :: .dead :: .dead :: .dead :: .dead :: .dead :: .dead :: .dead :: .dead :: .dead :: .dead :: .dead :: .dead :: .dead :: .dead :: .dead :: .dead :: .dead :: .dead :: []), bx ++ [c, z, [I k0, I n0, I a0, mkS 5 (acc ++ rows'), .dat .nil]], bx.length, none, false⟩)
  | [], rows, rs, K, i, hK, hr, hbs, hmax, hok => by
    rw [IsB.IsBs] at hbs
    subst hbs
    refine ⟨[], by rw [IsB.IsBs], fun acc bx c z k0 n0 a0 hs hc hz => ?_⟩
    rw [List.append_nil]
    exact ev_step cfg (e12 hc hz (by cases acc <;> rfl) (drop_nil hr))
  | b :: bs, rows, rs, K, i, hK, hr, hbs, hmax, hok => by
    rw [IsB.IsBs] at hbs
    obtain ⟨k, n, a, K', L', rest, rfl, hB, hrest⟩ := hbs
    obtain ⟨hget, hr', hlt⟩ := drop_cons hr
    rw [okB.go] at hok
    obtain ⟨M, N, q1, q2⟩ := ref_ev b hB hok.1
    obtain ⟨rows', p1, p2⟩ := loop bs (i := i + 1) hK hr' hrest hmax hok.2
    refine ⟨[dI k, dI n, dI a, M, N] :: rows', ?_, fun acc bx c z k0 n0 a0 hs hc hz => ?_⟩
    · rw [IsB.IsBs]; exact ⟨k, n, a, M, N, rows', rfl, q1, p1⟩
    · rw [List.length_cons] at hs
      have ih := p2 (acc ++ [[dI k, dI n, dI a, M, N]]) bx c z k0 n0 a0 (by simp; omega) hc hz
      rw [List.append_assoc, List.singleton_append, mkS_snoc] at ih
      cases acc with
      | nil => exact ev_step cfg ((r12n hK hc hz hget hlt hmax (isB_one hB).1 (isB_one hB).2 (isB_one q1).1 (isB_one q1).2 q2).trans ih)
      | cons y acc => exact ev_step cfg ((r12 (ks := y :: acc) hK hc hz hget hlt hmax (isB_one hB).1 (isB_one hB).2 (isB_one q1).1 (isB_one q1).2 (by simp at hs ⊢; omega) q2).trans ih)

/-! ### the two texts -/
def longB (b : Blk) : Bool := decide (deepB b > 24) || decide (sizeB b > 96)
def outT (b : Blk) : ByteArray × Int := if longB b = true then (⟨#[]⟩, 2) else if badB b = true then (⟨#[]⟩, 4) else (textB b, 0)

theorem long_ev (b : Blk) {k n a : Int} {K L : D} (h : IsB b k n a K L) (hz : sizeB b ≤ 1000000) (bx : List Box) : ev cfg (.call 33 [.agg [I k, I n, I a, .dat K, .dat L]] bx) = some (.ret (B (longB b)) none) := by
  obtain ⟨⟨_, hK⟩, _, hL⟩ := isB_K h
  exact ev_step cfg (f33 hK hL (deep_ev b h hz) (size_ev b h hz))

theorem Text_ev (b : Blk) {k n a : Int} {K L : D} (h : IsB b k n a K L) (hok : okB b) (hz : sizeB b ≤ 1000000) (bx : List Box) : ev cfg (.call 13 [.agg [I k, I n, I a, .dat K, .dat L]] bx) = some (.ret (.tup [S (outT b).1, I (outT b).2]) none) := by
  obtain ⟨⟨_, hK⟩, _, hL⟩ := isB_K h
  have h1 := long_ev b h hz
  have h2 := wrong_ev b h
  rw [outT]
  cases hl : longB b with
  | true => rw [hl] at h1; rw [if_pos rfl]; exact ev_step cfg (f13_long hK hL h1)
  | false =>
    rw [hl] at h1
    rw [if_neg (by simp)]
    cases hb : badB b with
    | true => rw [hb] at h2; rw [if_pos rfl]; exact ev_step cfg (f13_bad hK hL h1 h2)
    | false => rw [hb] at h2; rw [if_neg (by simp)]; exact ev_step cfg (f13_ok hK hL h1 h2 (text_ev b h hb hok hz))

theorem RText_ev (b : Blk) {k n a : Int} {K L : D} (h : IsB b k n a K L) (hok : okB b) (hz : sizeB b ≤ 1000000) (bx : List Box) : ev cfg (.call 14 [.agg [I k, I n, I a, .dat K, .dat L]] bx) = some (.ret (.tup [S (outT b).1, I (outT b).2]) none) := by
  obtain ⟨⟨_, hK⟩, _, hL⟩ := isB_K h
  have := f14 (bx := bx) (s := textB b) hK hL (depth_ev b h hz) (rsize_ev b h hz) (bad_ev b h) fun _ hb => plain_ev b h hb hok hz
  rw [outT]
  rw [show (decide (deepB b > 24) || decide (sizeB b > 96)) = longB b from rfl] at this
  refine ev_step cfg (this.trans ?_)
  cases longB b
  · cases badB b <;> rfl
  · rfl

end Go.Proofs.YtgppmcpbphgnnaaDoor
