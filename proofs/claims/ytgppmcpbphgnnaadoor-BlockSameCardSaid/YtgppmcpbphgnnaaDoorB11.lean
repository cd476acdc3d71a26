/- What the blocks' functions answer: size, wrong, bad, digits. No condition. -/
import Derived.Test.YtgppmcpbphgnnaaDoorB10
set_option linter.unusedSimpArgs false
set_option linter.unusedVariables false
set_option linter.unusedSectionVars false
namespace Go.Proofs.YtgppmcpbphgnnaaDoor
open Go Go.Vx
set_option maxRecDepth 10000

/-! ### size -/
def stS (_ : Blk) (n : Int) : Int := IntKind.wrap .i64 (n + 1)
theorem each_size : ∀ (b : Blk) (n : Int), 0 ≤ n → n + sizeB b ≤ 1000000000 → eachB stS b n = n + sizeB b
  | .mk k n a ks ls, x, h, h2 => by
    rw [sizeB] at h2 ⊢
    have := sizeB_pos.go ks
    rw [eachB, stS, wrap_lo (by omega) (by omega), go ks (x + 1) (by omega) (by omega)]
    omega
where
  go : ∀ (bs : List Blk) (n : Int), 0 ≤ n → n + sizeB.go bs ≤ 1000000000 → eachB.go stS bs n = n + sizeB.go bs
  | [], n, _, _ => by rw [eachB.go, sizeB.go, Int.add_zero]
  | b :: bs, n, h, h2 => by
    rw [sizeB.go] at h2 ⊢
    have := sizeB_pos b
    have := sizeB_pos.go bs
    rw [eachB.go, each_size b n h (by omega), go bs (n + sizeB b) (by omega) (by omega)]
    omega

theorem size_ev (b : Blk) {k n a : Int} {K L : D} (h : IsB b k n a K L) (hz : sizeB b ≤ 1000000) (bx : List Box) : ev cfg (.call 15 [.agg [I k, I n, I a, .dat K, .dat L]] bx) = some (.ret (I (sizeB b)) none) := by
  obtain ⟨⟨_, hK⟩, _, hL⟩ := isB_K h
  refine ev_step cfg (f15 hK hL fun c => ?_)
  have := each_ev (fun n : Int => [I n]) stS 40 (bx.length + 1) (fun b k n a K L x bx' hb hx => by
    obtain ⟨⟨_, hK⟩, _, hL⟩ := isB_K hb
    exact ev_step cfg (f40 hK hL (List.getElem?_eq_some_iff.1 hx).1 hx)) b (x := 0) (bx := bx ++ [c, [I 0]]) h (by rw [app_get]; rfl)
  rw [this, each_size b 0 (by omega) (by omega), app_set]
  simp

/-! ### wrong -/
def stW (b : Blk) (v : Bool) : Bool := v || badOne b
theorem each_wrong : ∀ (b : Blk) (v : Bool), eachB stW b v = (v || badB b)
  | .mk k n a ks ls, v => by rw [eachB, badB, go ks, stW, Bool.or_assoc]
where
  go : ∀ (bs : List Blk) (v : Bool), eachB.go stW bs v = (v || badB.go bs)
  | [], v => by rw [eachB.go, badB.go, Bool.or_false]
  | b :: bs, v => by rw [eachB.go, badB.go, each_wrong b, go bs, Bool.or_assoc]

theorem wrong_loop : ∀ (ls : List (Int × Int × Int)) {lr : List (List D)} {L : D} {v : Bool} {l i : Nat} {bx : List Box} {c : Box}, IsS 3 lr L → lr.drop i = ls.map lnkD → lr.length < 9223372036854775808 → bx[l]? = some [B v] → c.all (cellLt (bx.length + 1)) = true →
    ev cfg (.loop 58 3 ⟨(.dead :: .ptr l 0 :: .dead :: .dead :: .dead :: .dead :: .dead :: .dead :: .dead :: .dead :: .dead :: .dead :: .dead :: .dead :: .dead :: .dead :: .dead :: .dead :: .dead :: .dead :: .dead :: .dead :: .dead :: .dead :: .dead :: .dead :: .dead :: .dat L :: I lr.length :: I i :: .dead :: .dead :: .dead :: .dead :: .dead :: .dead :: .dead :: .dead :: .dead :: .dead :: .dead :: .dead :: .dead :: .dead :: .dead :: .dead :: .dead :: .dead :: .dead :: .dead :: []), bx ++ [c], bx.length, some l, false⟩) = some (.loop (.exit 0) ⟨(.dead :: .dead :: .dead :: .dead :: .dead :: .dead :: .dead :: .dead :: .dead :: .dead :: .dead :: .dead :: .dead :: .dead :: .dead :: .dead :: .dead :: .dead :: .dead :: .dead :: .dead :: .dead :: .dead :: .dead :: .dead :: .dead :: .dead :: .dead :: .dead :: .dead :: .dead :: .dead :: .dead :: .dead :: .dead :: .dead :: .dead :: .dead :: .dead :: .dead :: .dead :: .dead :: .dead :: .dead :: .dead :: .dead :: .dead :: .dead :: .dead :: .dead :: []), bx.set l [B (v || ls.any badL)] ++ [c], bx.length, some l, false⟩)
  | [], lr, L, v, l, i, bx, c, hL, hr, hmax, hb, hc => by
    have hl : l < bx.length := (List.getElem?_eq_some_iff.1 hb).1
    rw [List.any_nil, Bool.or_false, set_same hb]
    exact ev_step cfg (e58 hl hc (drop_nil hr))
  | x :: ls, lr, L, v, l, i, bx, c, hL, hr, hmax, hb, hc => by
    have hl : l < bx.length := (List.getElem?_eq_some_iff.1 hb).1
    rw [List.map_cons] at hr
    obtain ⟨hget, hr', hlt⟩ := drop_cons hr
    have h1 := r58 (f := x.1) (t := x.2.1) (w := x.2.2) hL hl hb hc hget hlt hmax (some l) rfl
    have h2 := wrong_loop ls (bx := bx.set l [B (v || decide (x.1 < -1) || decide (x.2.1 < -1) || decide (x.2.2 < -1))]) (i := i + 1) (c := c) (l := l) hL hr' hmax (get_set hl _) (by simpa using hc)
    simp only [List.length_set, List.set_set] at h2
    rw [List.any_cons, badL, ← Bool.or_assoc, ← Bool.or_assoc, ← Bool.or_assoc]
    exact ev_step cfg (h1.trans h2)

theorem wrong1_ev (b : Blk) (k n a : Int) (K L : D) (v : Bool) (l : Nat) (bx : List Box) (h : IsB b k n a K L) (hb : bx[l]? = some [B v]) : ev cfg (.call 58 [.agg [I k, I n, I a, .dat K, .dat L], .ptr l 0] bx) = some (.ret (.tup []) (some ⟨bx.set l [B (stW b v)], l, false⟩)) := by
  cases b with
  | mk k' n' a' ks ls =>
    rw [IsB] at h
    obtain ⟨rfl, rfl, rfl, _, _, _, rows, hK, hks, hmax, hL, hlm, _⟩ := h
    have hl : l < bx.length := (List.getElem?_eq_some_iff.1 hb).1
    refine ev_step cfg (f58 hK hL hl hb fun c hc => ?_)
    have := wrong_loop ls (bx := bx.set l [B (v || decide (k < 1) || decide (k > 10) || decide (n < 0) || decide (a < 0))]) (i := 0) (c := c) (l := l) hL rfl (by simpa using hlm) (get_set hl _) (by simpa using hc)
    simp only [List.length_set, List.set_set] at this
    rw [stW, badOne, ← Bool.or_assoc, ← Bool.or_assoc, ← Bool.or_assoc, ← Bool.or_assoc]
    exact this

theorem wrong_ev (b : Blk) {k n a : Int} {K L : D} (h : IsB b k n a K L) (bx : List Box) : ev cfg (.call 34 [.agg [I k, I n, I a, .dat K, .dat L]] bx) = some (.ret (B (badB b)) none) := by
  obtain ⟨⟨_, hK⟩, _, hL⟩ := isB_K h
  refine ev_step cfg (f34 hK hL fun c => ?_)
  have := each_ev (fun n : Bool => [B n]) stW 58 (bx.length + 1) (fun b k n a K L x bx' hb hx => wrong1_ev b k n a K L x _ bx' hb hx) b (x := false) (bx := bx ++ [c, [B false]]) h (by rw [app_get]; rfl)
  rw [this, each_wrong, Bool.false_or, app_set]
  simp

/-! ### the reference's bad -/
theorem bad_loop : ∀ (ls : List (Int × Int × Int)) {lr : List (List D)} {L : D} {i : Nat} {bx : List Box} {c : Box}, IsS 3 lr L → lr.drop i = ls.map lnkD → lr.length < 9223372036854775808 → c.all (cellLt (bx.length + 1)) = true →
    ev cfg (.loop 37 4 ⟨(.dead :: .ptr bx.length 0 :: .dead :: .dead :: .dead :: .dead :: .dead :: .dead :: .dead :: .dead :: .dead :: .dead :: .dead :: .dead :: .dead :: .dead :: .dead :: .dead :: .dead :: .dead :: .dead :: .dead :: .dead :: .dead :: .dead :: .dead :: .dat L :: I lr.length :: I i :: .dead :: .dead :: .dead :: .dead :: .dead :: .dead :: .dead :: .dead :: .dead :: .dead :: .dead :: .dead :: .dead :: .dead :: .dead :: .dead :: .dead :: .dead :: .dead :: .dead :: .dead :: .dead :: .dead :: .dead :: .dead :: .dead :: .dead :: []), bx ++ [c], bx.length, none, false⟩) =
      some (if ls.any badL = true then .loop .ret ⟨(.dead :: .ptr bx.length 0 :: B true :: .dead :: .dead :: .dead :: .dead :: .dead :: .dead :: .dead :: .dead :: .dead :: .dead :: .dead :: .dead :: .dead :: .dead :: .dead :: .dead :: .dead :: .dead :: .dead :: .dead :: .dead :: .dead :: .dead :: .dead :: .dead :: .dead :: .dead :: .dead :: .dead :: .dead :: .dead :: .dead :: .dead :: .dead :: .dead :: .dead :: .dead :: .dead :: .dead :: .dead :: .dead :: .dead :: .dead :: .dead :: .dead :: .dead :: .dead :: .dead :: .dead :: .dead :: .dead :: .dead :: .dead :: []), bx ++ [c], bx.length, none, false⟩ else .loop (.exit 0) ⟨(.dead :: .ptr bx.length 0 :: .dead :: .dead :: .dead :: .dead :: .dead :: .dead :: .dead :: .dead :: .dead :: .dead :: .dead :: .dead :: .dead :: .dead :: .dead :: .dead :: .dead :: .dead :: .dead :: .dead :: .dead :: .dead :: .dead :: .dead :: .dead :: .dead :: .dead :: .dead :: .dead :: .dead :: .dead :: .dead :: .dead :: .dead :: .dead :: .dead :: .dead :: .dead :: .dead :: .dead :: .dead :: .dead :: .dead :: .dead :: .dead :: .dead :: .dead :: .dead :: .dead :: .dead :: .dead :: .dead :: .dead :: .dead :: []), bx ++ [c], bx.length, none, false⟩)
  | [], lr, L, i, bx, c, hL, hr, hmax, hc => by
    rw [List.any_nil, if_neg (by simp)]
    exact ev_step cfg (e37 hc (drop_nil hr))
  | x :: ls, lr, L, i, bx, c, hL, hr, hmax, hc => by
    rw [List.map_cons] at hr
    obtain ⟨hget, hr', hlt⟩ := drop_cons hr
    have h1 := r37 (f := x.1) (t := x.2.1) (w := x.2.2) hL hc hget hlt hmax
    rw [List.any_cons]
    by_cases hx : badL x = true
    · rw [hx, Bool.true_or, if_pos rfl]
      rw [if_pos (by exact hx)] at h1
      exact ev_step cfg h1
    · have hx' : badL x = false := by simpa using hx
      rw [hx', Bool.false_or]
      rw [if_neg (by exact hx)] at h1
      exact ev_step cfg (h1.trans (bad_loop ls (i := i + 1) hL hr' hmax hc))

theorem bad_ev : ∀ (b : Blk) {k n a : Int} {K L : D}, IsB b k n a K L → ∀ bx : List Box, ev cfg (.call 37 [.agg [I k, I n, I a, .dat K, .dat L]] bx) = some (.ret (B (badB b)) none)
  | .mk _ _ _ ks ls, k, n, a, K, L, h, bx => by
    rw [IsB] at h
    obtain ⟨rfl, rfl, rfl, _, _, _, rows, hK, hks, hmax, hL, hlm, _⟩ := h
    have := f37 (x := ls.any badL) (y := badB.go ks) (bx := bx) (k := k) (n := n) (a := a) hK hL (fun c hc => bad_loop ls (i := 0) hL rfl (by simpa using hlm) hc) fun c hc => loop ks (i := 0) hK rfl hks (by rw [isBs_len hks]; exact hmax) hc
    rw [badB, badOne]
    exact ev_step cfg this
where
  loop : ∀ (bs : List Blk) {rows rs : List (List D)} {K : D} {i : Nat} {bx : List Box} {c : Box}, IsS 5 rows K → rows.drop i = rs → IsB.IsBs bs rs → rows.length < 9223372036854775808 → c.all (cellLt (bx.length + 1)) = true →
    ev cfg (.loop 37 10 ⟨(.dead :: .dead :: .dead :: .dead :: .dead :: .dead :: .dead :: .dead :: .dead :: .dead :: .dead :: .dead :: .dead :: .dead :: .dead :: .dead :: .dead :: .dead :: .dead :: .dead :: .dead :: .dead :: .dead :: .dead :: .dead :: .dead :: .dead :: .dead :: .dead :: .dead :: .dead :: .dead :: .dead :: .dead :: .dead :: .dead :: .dead :: .dead :: .dead :: .dead :: .dead :: .dead :: .dead :: .dead :: .dead :: .dead :: .dead :: .dat K :: I rows.length :: I i :: .dead :: .dead :: .dead :: .dead :: .dead :: .dead :: []), bx ++ [c], bx.length, none, false⟩) =
      some (if badB.go bs = true then .loop .ret ⟨(.dead :: .dead :: B true :: .dead :: .dead :: .dead :: .dead :: .dead :: .dead :: .dead :: .dead :: .dead :: .dead :: .dead :: .dead :: .dead :: .dead :: .dead :: .dead :: .dead :: .dead :: .dead :: .dead :: .dead :: .dead :: .dead :: .dead :: .dead :: .dead :: .dead :: .dead :: .dead :: .dead :: .dead :: .dead :: .dead :: .dead :: .dead :: .dead :: .dead :: .dead :: .dead :: .dead :: .dead :: .dead :: .dead :: .dead :: .dead :: .dead :: .dead :: .dead :: .dead :: .dead :: .dead :: .dead :: .dead :: []), bx ++ [c], bx.length, none, false⟩ else .loop (.exit 2) ⟨(.dead :: .dead :: .dead :: .dead :: .dead :: .dead :: .dead :: .dead :: .dead :: .dead :: .dead :: .dead :: .dead :: .dead :: .dead :: .dead :: .dead :: .dead :: .dead :: .dead :: .dead :: .dead :: .dead :: .dead :: .dead :: .dead :: .dead :: .dead :: .dead :: .dead :: .dead :: .dead :: .dead :: .dead :: .dead :: .dead :: .dead :: .dead :: .dead :: .dead :: .dead :: .dead :: .dead :: .dead :: .dead :: .dead :: .dead :: .dead :: .dead :: .dead :: .dead :: .dead :: .dead :: .dead :: .dead :: .dead :: []), bx ++ [c], bx.length, none, false⟩)
  | [], rows, rs, K, i, bx, c, hK, hr, hbs, hmax, hc => by
    rw [IsB.IsBs] at hbs
    subst hbs
    rw [badB.go, if_neg (by simp)]
    exact ev_step cfg (e37b hc (drop_nil hr))
  | b :: bs, rows, rs, K, i, bx, c, hK, hr, hbs, hmax, hc => by
    rw [IsB.IsBs] at hbs
    obtain ⟨k, n, a, K', L', rest, rfl, hB, hrest⟩ := hbs
    obtain ⟨hget, hr', hlt⟩ := drop_cons hr
    have h1 := r37b hK hc hget hlt hmax (isB_one hB).1 (isB_one hB).2 (bad_ev b hB)
    rw [badB.go]
    by_cases hx : badB b = true
    · rw [hx, Bool.true_or, if_pos rfl]
      rw [if_pos hx] at h1
      exact ev_step cfg h1
    · have hx' : badB b = false := by simpa using hx
      rw [hx', Bool.false_or]
      rw [if_neg hx] at h1
      exact ev_step cfg (h1.trans (loop bs (i := i + 1) hK hr' hrest hmax hc))

/-! ### digits -/
theorem digits_ev (n : Nat) (h : n < 9223372036854775808) (bx : List Box) : ev cfg (.call 59 [I n] bx) = some (.ret (S (digN n)) none) := by
  induction n using Nat.strongRecOn generalizing bx with
  | ind n ih =>
    have h0 : decide ((n : Int) < 0) = false := decide_eq_false (by omega)
    rw [digN]
    by_cases h1 : n < 10
    · rw [if_pos h1]
      exact ev_step cfg (f59_one h0 (decide_eq_true (by omega)) (enc_chr n h1))
    · rw [if_neg h1]
      have h2 := digN_size 18 (n / 10) (by omega)
      have h3 := chr_size (n % 10)
      exact ev_step cfg (f59_more h0 (decide_eq_false (by omega)) (enc_chr (n % 10) (Nat.mod_lt _ (by omega))) (wrap_lo (by show -9223372036854775808 ≤ ((n / 10 : Nat) : Int); omega) (by show ((n / 10 : Nat) : Int) ≤ _; omega)) (by omega) fun bx => ih (n / 10) (by omega) (by omega) bx)

theorem dig_ev (n : Int) (h : i64 n) (bx : List Box) : ev cfg (.call 59 [I n] bx) = some (.ret (S (dig n)) none) := by
  obtain ⟨h1, h2⟩ := h
  rw [dig]
  by_cases h0 : n < 0
  · rw [if_pos h0]
    exact ev_step cfg (f59_neg (decide_eq_true h0))
  · rw [if_neg h0]
    have := digits_ev n.toNat (by omega) bx
    rw [Int.toNat_of_nonneg (by omega)] at this
    exact this

theorem nat_lt0 (n : Nat) : ((n : Int) < 0) = False := by simp
theorem rdig_loop (n : Nat) : ∀ (s : ByteArray) (bx : List Box), n < 9223372036854775808 → s.size + (digN n).size ≤ 1000 → ∃ (m : Nat) (t : ByteArray), m < 10 ∧ chr m ++ t = digN n ++ s ∧
    ev cfg (.loop 70 2 ⟨(I n :: .dead :: .dead :: S s :: .dead :: .dead :: .dead :: .dead :: .dead :: .dead :: .dead :: .dead :: .dead :: .dead :: .dead :: .dead :: .dead :: .dead :: .dead :: .dead :: .dead :: .dead :: []), bx, bx.length, none, false⟩) = some (.loop (.exit 0) ⟨(I m :: .dead :: .dead :: S t :: .dead :: .dead :: .dead :: .dead :: .dead :: .dead :: .dead :: .dead :: .dead :: .dead :: .dead :: .dead :: .dead :: .dead :: .dead :: .dead :: .dead :: .dead :: []), bx, bx.length, none, false⟩) := by
  induction n using Nat.strongRecOn with
  | ind n ih =>
    intro s bx h hs
    by_cases h1 : n < 10
    · refine ⟨n, s, h1, ?_, ev_step cfg (e70 (decide_eq_false (by omega)))⟩
      rw [digN, if_pos h1]
    · have hlt : n % 10 < 10 := Nat.mod_lt _ (by omega)
      have hd : digN n = digN (n / 10) ++ chr (n % 10) := by rw [digN, if_neg h1]
      have hz : (digN n).size = (digN (n / 10)).size + 1 := by rw [hd, ByteArray.size_append, chr_size]
      have hr :=
        r70 (bx := bx) (n := n) (s := s) (t := chr (n % 10)) (decide_eq_true (by omega)) (nat_lt0 (n % 10)) (wrap_lo (by show -9223372036854775808 ≤ ((n % 10 : Nat) : Int) + 1; omega) (by show ((n % 10 : Nat) : Int) + 1 ≤ _; omega))
          (wrap_lo (by show -9223372036854775808 ≤ ((n / 10 : Nat) : Int); omega) (by show ((n / 10 : Nat) : Int) ≤ _; omega))
          (eq_true (by show ((n % 10 : Nat) : Int) ≤ ((n % 10 : Nat) : Int) + 1; omega)) (eq_true (by show ((n % 10 : Nat) : Int) + 1 ≤ ((10 : Nat) : Int); omega)) (ext_chr (n % 10) hlt) (by rw [chr_size]; omega)
      obtain ⟨m, t, q1, q2, q3⟩ := ih (n / 10) (by omega) (chr (n % 10) ++ s) bx (by omega) (by rw [ByteArray.size_append, chr_size]; omega)
      refine ⟨m, t, q1, ?_, ev_step cfg (hr.trans q3)⟩
      rw [q2, hd, ByteArray.append_assoc]

theorem rdig_ev (n : Nat) (h : n < 9223372036854775808) (bx : List Box) : ev cfg (.call 70 [I n] bx) = some (.ret (S (digN n)) none) := by
  have hz := digN_size 18 n (by omega)
  obtain ⟨m, t, q1, q2, q3⟩ := rdig_loop n ⟨#[]⟩ bx h (by show 0 + _ ≤ _; omega)
  have e : digN n ++ (⟨#[]⟩ : ByteArray) = digN n := ByteArray.append_empty
  have e2 : (chr m ++ t).size ≤ 19 := by rw [q2, e]; exact hz
  rw [← e, ← q2]
  exact ev_step cfg (f70 q3 (nat_lt0 m) (wrap_lo (by omega) (by omega)) (eq_true (by omega)) (eq_true (by omega)) (ext_chr m q1) (by rw [ByteArray.size_append] at e2; omega))

theorem num_ev (n : Int) (h : i64 n) (bx : List Box) : ev cfg (.call 60 [I n] bx) = some (.ret (S (dig n)) none) := by
  obtain ⟨h1, h2⟩ := h
  rw [dig]
  by_cases h0 : n < 0
  · rw [if_pos h0]
    exact ev_step cfg (f60_neg (decide_eq_true h0))
  · rw [if_neg h0]
    refine ev_step cfg (f60_num (decide_eq_false h0) fun bx => ev_step cfg (f51_num rfl fun bx => ?_))
    have := rdig_ev n.toNat (by omega) bx
    rw [Int.toNat_of_nonneg (by omega)] at this
    exact this

end Go.Proofs.YtgppmcpbphgnnaaDoor
