/- The law's function on two blocks answers true. No condition. -/
import Derived.Test.YtgppmcpbphgnnaaDoorB15
import Derived.Test.YtgppmcpbphgnnaaDoorB17
set_option linter.unusedSimpArgs false
set_option linter.unusedVariables false
set_option linter.unusedSectionVars false
namespace Go.Proofs.YtgppmcpbphgnnaaDoor
open Go Go.Vx
set_option maxRecDepth 10000
set_option maxHeartbeats 1000000

def lkEq (x y : Int × Int × Int) : Bool := x.1 == y.1 && (x.2.1 == y.2.1 && x.2.2 == y.2.2)
def lksEq : List (Int × Int × Int) → List (Int × Int × Int) → Bool
  | [], [] => true
  | x :: xs, y :: ys => lkEq x y && lksEq xs ys
  | _, _ => false

/-- are two trees the same? -/
def sameB : Blk → Blk → Bool
  | .mk k n a ks ls, b => match b with
    | .mk k2 n2 a2 ks2 ls2 => k == k2 && n == n2 && a == a2 && lksEq ls ls2 && go ks ks2
where
  go : List Blk → List Blk → Bool
  | [], bs => bs.isEmpty
  | b :: bs, cs => match cs with
    | [] => false
    | c :: cs => sameB b c && go bs cs

theorem lksEq_len : ∀ {xs ys : List (Int × Int × Int)}, xs.length ≠ ys.length → lksEq xs ys = false
  | [], [], h => absurd rfl h
  | [], _ :: _, _ => rfl
  | _ :: _, [], _ => rfl
  | x :: xs, y :: ys, h => by rw [lksEq, lksEq_len (by simpa using h), Bool.and_false]
theorem go_len : ∀ {xs ys : List Blk}, xs.length ≠ ys.length → sameB.go xs ys = false
  | [], [], h => absurd rfl h
  | [], _ :: _, _ => by rw [sameB.go]; rfl
  | _ :: _, [], _ => by rw [sameB.go]
  | x :: xs, y :: ys, h => by rw [sameB.go]; (try simp only); rw [go_len (by simpa using h), Bool.and_false]
theorem lksEq_refl : ∀ xs, lksEq xs xs = true
  | [] => rfl
  | x :: xs => by rw [lksEq, lksEq_refl xs, lkEq]; simp
theorem sameB_refl : ∀ b, sameB b b = true
  | .mk k n a ks ls => by rw [sameB]; (try simp only); rw [lksEq_refl, go ks]; simp
where
  go : ∀ bs, sameB.go bs bs = true
  | [] => by rw [sameB.go]; rfl
  | b :: bs => by rw [sameB.go]; (try simp only); rw [sameB_refl b, go bs]; rfl

theorem bne_len {m n : Nat} (h : ¬ m = n) : ((m : Int) != (n : Int)) = true := by
  simp only [bne_iff_ne, ne_eq]
  omega
theorem bne_len' {m n : Nat} (h : m = n) : ((m : Int) != (n : Int)) = false := by
  subst h; simp

theorem lks_loop : ∀ (xs ys : List (Int × Int × Int)) {lr lr2 : List (List D)} {L L2 : D} {i : Nat} {bx : List Box}, IsS 3 lr L → IsS 3 lr2 L2 → lr.drop i = xs.map lnkD → lr2.drop i = ys.map lnkD → xs.length = ys.length → lr.length < 9223372036854775808 →
    ev cfg (.loop 41 4 ⟨(.dat L :: .dat L2 :: .dead :: .dead :: .dead :: .dead :: .dead :: .dead :: .dead :: .dead :: .dead :: .dead :: I lr.length :: I i :: .dead :: .dead :: .dead :: .dead :: .dead :: .dead :: .dead :: .dead :: .dead :: .dead :: .dead :: .dead :: []), bx, bx.length, none, false⟩) = some (if lksEq xs ys = true then .loop (.exit 0) ⟨(.dead :: .dead :: .dead :: .dead :: .dead :: .dead :: .dead :: .dead :: .dead :: .dead :: .dead :: .dead :: .dead :: .dead :: .dead :: .dead :: .dead :: .dead :: .dead :: .dead :: .dead :: .dead :: .dead :: .dead :: .dead :: .dead :: []), bx, bx.length, none, false⟩ else .loop .ret ⟨(.dead :: .dead :: .dead :: .dead :: B false :: .dead :: .dead :: .dead :: .dead :: .dead :: .dead :: .dead :: .dead :: .dead :: .dead :: .dead :: .dead :: .dead :: .dead :: .dead :: .dead :: .dead :: .dead :: .dead :: .dead :: .dead :: []), bx, bx.length, none, false⟩)
  | [], [], lr, lr2, L, L2, i, bx, hL, hL2, hr, hr2, hlen, hmax => by
    rw [lksEq, if_pos rfl]
    exact ev_step cfg (e41 (drop_nil hr))
  | x :: xs, y :: ys, lr, lr2, L, L2, i, bx, hL, hL2, hr, hr2, hlen, hmax => by
    rw [List.map_cons] at hr hr2
    obtain ⟨hget, hr', hlt⟩ := drop_cons hr
    obtain ⟨hget2, hr2', _⟩ := drop_cons hr2
    have h1 := r41 (bx := bx) (x := lkEq x y) hL hL2 hget hget2 hlt hmax rfl
    have ih := lks_loop xs ys (i := i + 1) (bx := bx) hL hL2 hr' hr2' (by simpa using hlen) hmax
    rw [lksEq]
    cases hx : lkEq x y
    · rw [hx, if_neg (by simp)] at h1
      rw [Bool.false_and, if_neg (by simp)]
      exact ev_step cfg h1
    · rw [hx, if_pos rfl] at h1
      rw [Bool.true_and]
      exact ev_step cfg (h1.trans ih)
  | [], _ :: _, _, _, _, _, _, _, _, _, _, _, hlen, _ => by cases hlen
  | _ :: _, [], _, _, _, _, _, _, _, _, _, _, hlen, _ => by cases hlen

theorem lks_ev {xs ys : List (Int × Int × Int)} {L L2 : D} (hL : IsS 3 (xs.map lnkD) L) (hL2 : IsS 3 (ys.map lnkD) L2) (hmax : xs.length < 9223372036854775808) (bx : List Box) : ev cfg (.call 41 [.dat L, .dat L2] bx) = some (.ret (B (lksEq xs ys)) none) := by
  by_cases h : xs.length = ys.length
  · exact ev_step cfg (f41 hL hL2 (bne_len' (by simpa using h)) (lks_loop xs ys (i := 0) hL hL2 rfl rfl h (by simpa using hmax)))
  · rw [lksEq_len h]
    exact ev_step cfg (f41_len hL hL2 (bne_len (by simpa using h)))

theorem same_ev : ∀ (b c : Blk) {k n a k2 n2 a2 : Int} {K L K2 L2 : D}, IsB b k n a K L → IsB c k2 n2 a2 K2 L2 → ∀ bx : List Box, ev cfg (.call 17 [.agg [I k, I n, I a, .dat K, .dat L], .agg [I k2, I n2, I a2, .dat K2, .dat L2]] bx) = some (.ret (B (sameB b c)) none)
  | .mk _ _ _ ks ls, c, k, n, a, k2, n2, a2, K, L, K2, L2, h, h2, bx => by
    cases c with
    | mk _ _ _ ks2 ls2 =>
    rw [IsB] at h h2
    obtain ⟨rfl, rfl, rfl, _, _, _, rows, hK, hks, hmax, hL, hlm, _⟩ := h
    obtain ⟨rfl, rfl, rfl, _, _, _, rows2, hK2, hks2, hmax2, hL2, hlm2, _⟩ := h2
    have h42 : ∀ bx : List Box, ev cfg (.call 42 [.dat K, .dat K2, .clo 17 []] bx) = some (.ret (B (sameB.go ks ks2)) none) := by
      intro bx
      by_cases hlen : ks.length = ks2.length
      · exact ev_step cfg (f42 hK hK2 (bne_len' (by rw [isBs_len hks, isBs_len hks2]; exact hlen)) (loop ks ks2 (i := 0) hK hK2 rfl rfl hks hks2 hlen (by rw [isBs_len hks]; exact hmax)))
      · rw [go_len hlen]
        exact ev_step cfg (f42_len hK hK2 (bne_len (by rw [isBs_len hks, isBs_len hks2]; exact hlen)))
    rw [sameB]
    exact ev_step cfg (f17 hK hL hK2 hL2 (lks_ev hL hL2 hlm) h42)
where
  loop : ∀ (bs cs : List Blk) {rows rows2 rs rs2 : List (List D)} {K K2 : D} {i : Nat} {bx : List Box}, IsS 5 rows K → IsS 5 rows2 K2 → rows.drop i = rs → rows2.drop i = rs2 → IsB.IsBs bs rs → IsB.IsBs cs rs2 → bs.length = cs.length → rows.length < 9223372036854775808 →
    ev cfg (.loop 42 4 ⟨(.dead :: .dat K2 :: .clo 17 [] :: .dead :: .dead :: .dead :: .dead :: .dead :: .dead :: .dead :: .dead :: .dead :: .dead :: .dead :: .dead :: .dat K :: I rows.length :: I i :: .dead :: .dead :: .dead :: .dead :: .dead :: .dead :: .dead :: .dead :: .dead :: .dead :: .dead :: .dead :: .dead :: .dead :: []), bx, bx.length, none, false⟩) = some (if sameB.go bs cs = true then .loop (.exit 0) ⟨(.dead :: .dead :: .dead :: .dead :: .dead :: .dead :: .dead :: .dead :: .dead :: .dead :: .dead :: .dead :: .dead :: .dead :: .dead :: .dead :: .dead :: .dead :: .dead :: .dead :: .dead :: .dead :: .dead :: .dead :: .dead :: .dead :: .dead :: .dead :: .dead :: .dead :: .dead :: .dead :: []), bx, bx.length, none, false⟩ else .loop .ret ⟨(.dead :: .dead :: .dead :: .dead :: .dead :: .dead :: B false :: .dead :: .dead :: .dead :: .dead :: .dead :: .dead :: .dead :: .dead :: .dead :: .dead :: .dead :: .dead :: .dead :: .dead :: .dead :: .dead :: .dead :: .dead :: .dead :: .dead :: .dead :: .dead :: .dead :: .dead :: .dead :: []), bx, bx.length, none, false⟩)
  | [], cs, rows, rows2, rs, rs2, K, K2, i, bx, hK, hK2, hr, hr2, hbs, hcs, hlen, hmax => by
    cases cs with
    | cons => cases hlen
    | nil =>
      rw [IsB.IsBs] at hbs
      subst hbs
      rw [sameB.go, List.isEmpty_nil, if_pos rfl]
      exact ev_step cfg (e42 (drop_nil hr))
  | b :: bs, cs, rows, rows2, rs, rs2, K, K2, i, bx, hK, hK2, hr, hr2, hbs, hcs, hlen, hmax => by
    cases cs with
    | nil => cases hlen
    | cons c cs =>
      rw [IsB.IsBs] at hbs hcs
      obtain ⟨k, n, a, K', L', rest, rfl, hB, hrest⟩ := hbs
      obtain ⟨k2, n2, a2, K2', L2', rest2, rfl, hB2, hrest2⟩ := hcs
      obtain ⟨hget, hr', hlt⟩ := drop_cons hr
      obtain ⟨hget2, hr2', _⟩ := drop_cons hr2
      have h1 := r42 (bx := bx) (x := sameB b c) hK hK2 hget hget2 hlt hmax (isB_one hB).1 (isB_one hB).2 (isB_one hB2).1 (isB_one hB2).2 (same_ev b c hB hB2)
      have ih := loop bs cs (i := i + 1) (bx := bx) hK hK2 hr' hr2' hrest hrest2 (by simpa using hlen) hmax
      rw [sameB.go]
      try simp only
      cases hx : sameB b c
      · rw [hx, if_neg (by simp)] at h1
        rw [Bool.false_and, if_neg (by simp)]
        exact ev_step cfg h1
      · rw [hx, if_pos rfl] at h1
        rw [Bool.true_and]
        exact ev_step cfg (h1.trans ih)

theorem rlks_loop : ∀ (xs ys : List (Int × Int × Int)) {lr lr2 : List (List D)} {K L K2 L2 : D} {k n a k2 n2 a2 : Int} {i : Nat} {bx : List Box}, IsS 3 lr L → IsS 3 lr2 L2 → K.oneC = true → K2.oneC = true → lr.drop i = xs.map lnkD → lr2.drop i = ys.map lnkD → xs.length = ys.length → lr.length < 9223372036854775808 →
    ev cfg (.loop 18 4 ⟨(.dead :: .dead :: .ptr bx.length 0 :: .ptr (bx.length + 1) 0 :: .dead :: .dead :: .dead :: .dead :: .dead :: .dead :: .dead :: .dead :: .dead :: .dead :: .dead :: .dead :: .dead :: .dead :: .dead :: .dead :: .dead :: .dead :: .dead :: .dead :: .dead :: .dead :: .dead :: .dead :: .dead :: .dead :: .dead :: .dead :: .dead :: .dead :: .dead :: .dead :: .dead :: .dead :: .dead :: .dead :: .dead :: .dead :: .dead :: .dead :: .dead :: .dead :: I lr.length :: I i :: .dead :: .dead :: .dead :: .dead :: .dead :: .dead :: .dead :: .dead :: .dead :: .dead :: .dead :: .dead :: .dead :: .dead :: .dead :: .dead :: .dead :: .dead :: .dead :: .dead :: .dead :: .dead :: .dead :: .dead :: .dead :: .dead :: .dead :: .dead :: .dead :: .dead :: .dead :: .dead :: .dead :: []), bx ++ [[I k, I n, I a, .dat K, .dat L], [I k2, I n2, I a2, .dat K2, .dat L2]], bx.length, none, false⟩) =
      some (if lksEq xs ys = true then .loop (.exit 0) ⟨(.dead :: .dead :: .ptr bx.length 0 :: .ptr (bx.length + 1) 0 :: .dead :: .dead :: .dead :: .dead :: .dead :: .dead :: .dead :: .dead :: .dead :: .dead :: .dead :: .dead :: .dead :: .dead :: .dead :: .dead :: .dead :: .dead :: .dead :: .dead :: .dead :: .dead :: .dead :: .dead :: .dead :: .dead :: .dead :: .dead :: .dead :: .dead :: .dead :: .dead :: .dead :: .dead :: .dead :: .dead :: .dead :: .dead :: .dead :: .dead :: .dead :: .dead :: .dead :: .dead :: .dead :: .dead :: .dead :: .dead :: .dead :: .dead :: .dead :: .dead :: .dead :: .dead :: .dead :: .dead :: .dead :: .dead :: .dead :: .dead :: .dead :: .dead :: .dead :: .dead :: .dead :: .dead :: .dead :: .dead :: .dead :: .dead :: .dead :: .dead :: .dead :: .dead :: .dead :: .dead :: .dead :: []), bx ++ [[I k, I n, I a, .dat K, .dat L], [I k2, I n2, I a2, .dat K2, .dat L2]], bx.length, none, false⟩ else .loop .ret ⟨(.dead :: .dead :: .ptr bx.length 0 :: .ptr (bx.length + 1) 0 :: B false :: .dead :: .dead :: .dead :: .dead :: .dead :: .dead :: .dead :: .dead :: .dead :: .dead :: .dead :: .dead :: .dead :: .dead :: .dead :: .dead :: .dead :: .dead :: .dead :: .dead :: .dead :: .dead :: .dead :: .dead :: .dead :: .dead :: .dead :: .dead :: .dead :: .dead :: .dead :: .dead :: .dead :: .dead :: .dead :: .dead :: .dead :: .dead :: .dead :: .dead :: .dead :: .dead :: .dead :: .dead :: .dead :: .dead :: .dead :: .dead :: .dead :: .dead :: .dead :: .dead :: .dead :: .dead :: .dead :: .dead :: .dead :: .dead :: .dead :: .dead :: .dead :: .dead :: .dead :: .dead :: .dead :: .dead :: .dead :: .dead :: .dead :: .dead :: .dead :: .dead :: .dead :: .dead :: .dead :: .dead :: []), bx ++ [[I k, I n, I a, .dat K, .dat L], [I k2, I n2, I a2, .dat K2, .dat L2]], bx.length, none, false⟩)
  | [], [], lr, lr2, K, L, K2, L2, k, n, a, k2, n2, a2, i, bx, hL, hL2, hK, hK2, hr, hr2, hlen, hmax => by
    rw [lksEq, if_pos rfl]
    exact ev_step cfg (e18 (drop_nil hr))
  | x :: xs, y :: ys, lr, lr2, K, L, K2, L2, k, n, a, k2, n2, a2, i, bx, hL, hL2, hK, hK2, hr, hr2, hlen, hmax => by
    rw [List.map_cons] at hr hr2
    obtain ⟨hget, hr', hlt⟩ := drop_cons hr
    obtain ⟨hget2, hr2', _⟩ := drop_cons hr2
    have h1 := r18 (bx := bx) (x := lkEq x y) (k := k) (n := n) (a := a) (k2 := k2) (n2 := n2) (a2 := a2) hL hL2 hK hK2 hget hget2 hlt hmax rfl
    have ih := rlks_loop xs ys (i := i + 1) (bx := bx) (k := k) (n := n) (a := a) (k2 := k2) (n2 := n2) (a2 := a2) hL hL2 hK hK2 hr' hr2' (by simpa using hlen) hmax
    rw [lksEq]
    cases hx : lkEq x y
    · rw [hx, if_neg (by simp)] at h1
      rw [Bool.false_and, if_neg (by simp)]
      exact ev_step cfg h1
    · rw [hx, if_pos rfl] at h1
      rw [Bool.true_and]
      exact ev_step cfg (h1.trans ih)
  | [], _ :: _, _, _, _, _, _, _, _, _, _, _, _, _, _, _, _, _, _, _, _, _, hlen, _ => by cases hlen
  | _ :: _, [], _, _, _, _, _, _, _, _, _, _, _, _, _, _, _, _, _, _, _, _, hlen, _ => by cases hlen

theorem rsame_ev : ∀ (b c : Blk) {k n a k2 n2 a2 : Int} {K L K2 L2 : D}, IsB b k n a K L → IsB c k2 n2 a2 K2 L2 → ∀ bx : List Box, ev cfg (.call 18 [.agg [I k, I n, I a, .dat K, .dat L], .agg [I k2, I n2, I a2, .dat K2, .dat L2]] bx) = some (.ret (B (sameB b c)) none)
  | .mk _ _ _ ks ls, c, k, n, a, k2, n2, a2, K, L, K2, L2, h, h2, bx => by
    cases c with
    | mk _ _ _ ks2 ls2 =>
    rw [IsB] at h h2
    obtain ⟨rfl, rfl, rfl, _, _, _, rows, hK, hks, hmax, hL, hlm, _⟩ := h
    obtain ⟨rfl, rfl, rfl, _, _, _, rows2, hK2, hks2, hmax2, hL2, hlm2, _⟩ := h2
    rw [sameB]
    try simp only
    have l1 := isBs_len hks
    have l2 := isBs_len hks2
    by_cases hno : ((k != k2) || (n != n2) || (a != a2) || ((rows.length : Int) != (rows2.length : Int)) || (((ls.map lnkD).length : Int) != ((ls2.map lnkD).length : Int))) = true
    · have e : (k == k2 && n == n2 && a == a2 && lksEq ls ls2 && sameB.go ks ks2) = false := by
        simp only [Bool.or_eq_true, bne_iff_ne, ne_eq] at hno
        rcases hno with (((h | h) | h) | h) | h
        · simp [h]
        · simp [h]
        · simp [h]
        · rw [go_len (by rw [← l1, ← l2]; intro e; exact h (by rw [e])), Bool.and_false]
        · rw [lksEq_len (by intro e; exact h (by simp [e]))]; simp
      rw [e]
      exact ev_step cfg (f18_no hK hL hK2 hL2 hno)
    · have hno' := Bool.eq_false_iff.2 hno
      simp only [Bool.or_eq_false_iff] at hno'
      obtain ⟨⟨⟨⟨c1, c2⟩, c3⟩, c4⟩, c5⟩ := hno'
      have e1 : (k == k2) = true := by simpa using c1
      have e2 : (n == n2) = true := by simpa using c2
      have e3 : (a == a2) = true := by simpa using c3
      have e4 : ks.length = ks2.length := by rw [← l1, ← l2]; have := c4; simp at this; omega
      have e5 : ls.length = ls2.length := by have := c5; simp at this; omega
      rw [e1, e2, e3, Bool.true_and, Bool.true_and, Bool.true_and]
      exact ev_step cfg (f18 hK hL hK2 hL2 c1 c2 c3 c4 c5 (rlks_loop ls ls2 (i := 0) hL hL2 (by obtain ⟨_, _, _, q⟩ := hK; exact q) (by obtain ⟨_, _, _, q⟩ := hK2; exact q) rfl rfl e5 (by simpa using hlm))
        fun _ => loop ks ks2 (i := 0) hK hK2 (by obtain ⟨_, _, _, q⟩ := hL; exact q) (by obtain ⟨_, _, _, q⟩ := hL2; exact q) rfl rfl hks hks2 e4 (by rw [l1]; exact hmax))
where
  loop : ∀ (bs cs : List Blk) {rows rows2 rs rs2 : List (List D)} {K L K2 L2 : D} {k n a k2 n2 a2 : Int} {i : Nat} {bx : List Box}, IsS 5 rows K → IsS 5 rows2 K2 → L.oneC = true → L2.oneC = true → rows.drop i = rs → rows2.drop i = rs2 → IsB.IsBs bs rs → IsB.IsBs cs rs2 → bs.length = cs.length → rows.length < 9223372036854775808 →
    ev cfg (.loop 18 10 ⟨(.dead :: .dead :: .ptr bx.length 0 :: .ptr (bx.length + 1) 0 :: .dead :: .dead :: .dead :: .dead :: .dead :: .dead :: .dead :: .dead :: .dead :: .dead :: .dead :: .dead :: .dead :: .dead :: .dead :: .dead :: .dead :: .dead :: .dead :: .dead :: .dead :: .dead :: .dead :: .dead :: .dead :: .dead :: .dead :: .dead :: .dead :: .dead :: .dead :: .dead :: .dead :: .dead :: .dead :: .dead :: .dead :: .dead :: .dead :: .dead :: .dead :: .dead :: .dead :: .dead :: .dead :: .dead :: .dead :: .dead :: .dead :: .dead :: .dead :: .dead :: .dead :: .dead :: .dead :: .dead :: .dead :: .dead :: .dead :: .dead :: I rows.length :: I i :: .dead :: .dead :: .dead :: .dead :: .dead :: .dead :: .dead :: .dead :: .dead :: .dead :: .dead :: .dead :: .dead :: .dead :: .dead :: []), bx ++ [[I k, I n, I a, .dat K, .dat L], [I k2, I n2, I a2, .dat K2, .dat L2]], bx.length, none, false⟩) =
      some (if sameB.go bs cs = true then .loop (.exit 2) ⟨(.dead :: .dead :: .dead :: .dead :: .dead :: .dead :: .dead :: .dead :: .dead :: .dead :: .dead :: .dead :: .dead :: .dead :: .dead :: .dead :: .dead :: .dead :: .dead :: .dead :: .dead :: .dead :: .dead :: .dead :: .dead :: .dead :: .dead :: .dead :: .dead :: .dead :: .dead :: .dead :: .dead :: .dead :: .dead :: .dead :: .dead :: .dead :: .dead :: .dead :: .dead :: .dead :: .dead :: .dead :: .dead :: .dead :: .dead :: .dead :: .dead :: .dead :: .dead :: .dead :: .dead :: .dead :: .dead :: .dead :: .dead :: .dead :: .dead :: .dead :: .dead :: .dead :: .dead :: .dead :: .dead :: .dead :: .dead :: .dead :: .dead :: .dead :: .dead :: .dead :: .dead :: .dead :: .dead :: .dead :: .dead :: .dead :: .dead :: .dead :: .dead :: []), bx ++ [[I k, I n, I a, .dat K, .dat L], [I k2, I n2, I a2, .dat K2, .dat L2]], bx.length, none, false⟩ else .loop .ret ⟨(.dead :: .dead :: .dead :: .dead :: B false :: .dead :: .dead :: .dead :: .dead :: .dead :: .dead :: .dead :: .dead :: .dead :: .dead :: .dead :: .dead :: .dead :: .dead :: .dead :: .dead :: .dead :: .dead :: .dead :: .dead :: .dead :: .dead :: .dead :: .dead :: .dead :: .dead :: .dead :: .dead :: .dead :: .dead :: .dead :: .dead :: .dead :: .dead :: .dead :: .dead :: .dead :: .dead :: .dead :: .dead :: .dead :: .dead :: .dead :: .dead :: .dead :: .dead :: .dead :: .dead :: .dead :: .dead :: .dead :: .dead :: .dead :: .dead :: .dead :: .dead :: .dead :: .dead :: .dead :: .dead :: .dead :: .dead :: .dead :: .dead :: .dead :: .dead :: .dead :: .dead :: .dead :: .dead :: .dead :: .dead :: .dead :: .dead :: .dead :: .dead :: []), bx ++ [[I k, I n, I a, .dat K, .dat L], [I k2, I n2, I a2, .dat K2, .dat L2]], bx.length, none, false⟩)
  | [], cs, rows, rows2, rs, rs2, K, L, K2, L2, k, n, a, k2, n2, a2, i, bx, hK, hK2, hL, hL2, hr, hr2, hbs, hcs, hlen, hmax => by
    cases cs with
    | cons => cases hlen
    | nil =>
      rw [IsB.IsBs] at hbs
      subst hbs
      rw [sameB.go, List.isEmpty_nil, if_pos rfl]
      exact ev_step cfg (e18b (drop_nil hr))
  | b :: bs, cs, rows, rows2, rs, rs2, K, L, K2, L2, k, n, a, k2, n2, a2, i, bx, hK, hK2, hL, hL2, hr, hr2, hbs, hcs, hlen, hmax => by
    cases cs with
    | nil => cases hlen
    | cons c cs =>
      rw [IsB.IsBs] at hbs hcs
      obtain ⟨kk, nn, aa, K', L', rest, rfl, hB, hrest⟩ := hbs
      obtain ⟨kk2, nn2, aa2, K2', L2', rest2, rfl, hB2, hrest2⟩ := hcs
      obtain ⟨hget, hr', hlt⟩ := drop_cons hr
      obtain ⟨hget2, hr2', _⟩ := drop_cons hr2
      have h1 := r18b (bx := bx) (x := sameB b c) (k := k) (n := n) (a := a) (k2 := k2) (n2 := n2) (a2 := a2) hK hK2 hL hL2 hget hget2 hlt hmax (isB_one hB).1 (isB_one hB).2 (isB_one hB2).1 (isB_one hB2).2 (rsame_ev b c hB hB2)
      have ih := loop bs cs (i := i + 1) (bx := bx) (k := k) (n := n) (a := a) (k2 := k2) (n2 := n2) (a2 := a2) hK hK2 hL hL2 hr' hr2' hrest hrest2 (by simpa using hlen) hmax
      rw [sameB.go]
      try simp only
      cases hx : sameB b c
      · rw [hx, if_neg (by simp)] at h1
        rw [Bool.false_and, if_neg (by simp)]
        exact ev_step cfg h1
      · rw [hx, if_pos rfl] at h1
        rw [Bool.true_and]
        exact ev_step cfg (h1.trans ih)

/-- WHATEVER THE BLOCKS: TRUE. -/
theorem blockSame_ev (b c : Blk) {k n a k2 n2 a2 : Int} {K L K2 L2 : D} (h : IsB b k n a K L) (h2 : IsB c k2 n2 a2 K2 L2) : ev cfg (.call 4 [.agg [I k, I n, I a, .dat K, .dat L], .agg [I k2, I n2, I a2, .dat K2, .dat L2]] []) = some (.ret (B true) none) := by
  obtain ⟨⟨_, hK⟩, _, hL⟩ := isB_K h
  obtain ⟨⟨_, hK2⟩, _, hL2⟩ := isB_K h2
  have hb := fun x z : Box => big_ev b (m := 400) (d := 1) (l := 2) (bx := [x, z, [I 400]]) h (by omega) (by omega) (by omega) (by omega) rfl
  have hb2 := fun x z u : Box => big_ev c (m := 400) (d := 1) (l := 3) (bx := [x, z, u, [I 400]]) h2 (by omega) (by omega) (by omega) (by omega) rfl
  by_cases hbig : (bigB 400 1 b).1 = true
  · simp only [hbig] at hb
    exact ev_step cfg (f4_big hK hL hK2 hL2 alt_ev hb)
  · have hbf : (bigB 400 1 b).1 = false := by simpa using hbig
    simp only [hbf] at hb
    by_cases hbig2 : (bigB 400 1 c).1 = true
    · simp only [hbig2] at hb2
      exact ev_step cfg (f4_big2 hK hL hK2 hL2 alt_ev hb hb2)
    · have hbf2 : (bigB 400 1 c).1 = false := by simpa using hbig2
      simp only [hbf2] at hb2
      obtain ⟨M, N, hMN, hr⟩ := ref_ev b h (bigB_ok b 400 1 hbig)
      obtain ⟨M2, N2, hMN2, hr2⟩ := ref_ev c h2 (bigB_ok c 400 1 hbig2)
      have hss := same_ev b b h h
      rw [sameB_refl] at hss
      exact ev_step cfg (f4 hK hL hK2 hL2 alt_ev hb hb2 (same_ev b c h h2) hss hr hr2 (rsame_ev b c hMN hMN2))

end Go.Proofs.YtgppmcpbphgnnaaDoor
