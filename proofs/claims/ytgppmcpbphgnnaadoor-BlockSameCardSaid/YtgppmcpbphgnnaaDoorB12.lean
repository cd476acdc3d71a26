/- What the blocks' functions answer: the texts. No condition. -/
import Derived.Test.YtgppmcpbphgnnaaDoorB11
import Derived.Test.YtgppmcpbphgnnaaDoorB7
import Derived.Test.YtgppmcpbphgnnaaDoorB8
set_option linter.unusedSimpArgs false
set_option linter.unusedVariables false
set_option linter.unusedSectionVars false
namespace Go.Proofs.YtgppmcpbphgnnaaDoor
open Go Go.Vx
set_option maxRecDepth 10000
set_option maxHeartbeats 1000000

theorem bsz (l : List UInt8) : (ByteArray.mk l.toArray).size = l.length := by simp [ByteArray.size]

/-- not too much in each block -/
def okB : Blk → Prop
  | .mk _ _ _ ks ls => ks.length ≤ 200 ∧ ls.length ≤ 100 ∧ go ks
where
  go : List Blk → Prop
  | [] => True
  | b :: bs => okB b ∧ go bs

theorem bigB_ok : ∀ (b : Blk) (m d : Int), ¬ (bigB m d b).1 = true → okB b
  | .mk k n a ks ls, m, d, h => by
    rw [bigB] at h
    split at h
    · exact absurd rfl h
    · rename_i hc
      simp only [Bool.or_eq_true, decide_eq_true_eq, not_or] at hc
      rw [okB]
      exact ⟨by omega, by omega, go ks _ _ h⟩
where
  go : ∀ (bs : List Blk) (m d : Int), ¬ (bigB.bigs m d bs).1 = true → okB.go bs
  | [], m, d, _ => by rw [okB.go]; trivial
  | b :: bs, m, d, h => by
    rw [bigB.bigs] at h
    split at h
    · exact absurd rfl h
    · rename_i hc
      rw [okB.go]
      exact ⟨bigB_ok b m d hc, go bs _ d h⟩

/-! ### the text -/
def nmB (k : Int) : ByteArray := if k = 3 then ⟨#[115, 101, 113]⟩ else if k = 4 then ⟨#[112, 97, 114]⟩ else if k = 5 then ⟨#[97, 108, 116]⟩ else if k = 6 then ⟨#[112, 105, 99, 107]⟩ else if k = 7 then ⟨#[108, 111, 111, 112]⟩ else ⟨#[119, 101, 98]⟩
def linkT (x : Int × Int × Int) : ByteArray := ((((((⟨#[32, 91]⟩ ++ dig x.1) ++ ⟨#[32]⟩) ++ dig x.2.1) ++ ⟨#[32]⟩) ++ dig x.2.2) ++ ⟨#[93]⟩)
def linksT (s : ByteArray) : List (Int × Int × Int) → ByteArray
  | [] => s
  | x :: ls => linksT (s ++ linkT x) ls
def headT (k n a : Int) : ByteArray :=
  if k = 3 ∨ k = 9 then ⟨#[40]⟩ ++ nmB k else if k = 7 then ((⟨#[40]⟩ ++ nmB k) ++ (⟨#[58]⟩ ++ dig n)) ++ (⟨#[47]⟩ ++ dig a) else (⟨#[40]⟩ ++ nmB k) ++ (⟨#[58]⟩ ++ dig n)
def textB : Blk → ByteArray
  | .mk k n a ks ls => if k = 1 then ⟨#[45]⟩ else if k = 2 then dig n else if k = 8 then ⟨#[103]⟩ ++ dig n else if k = 10 then ⟨#[42]⟩ else
    if k = 9 then linksT (go (headT k n a) ks) ls ++ ⟨#[41]⟩ else go (headT k n a) ks ++ ⟨#[41]⟩
where
  go (s : ByteArray) : List Blk → ByteArray
  | [] => s
  | b :: bs => go (s ++ (⟨#[32]⟩ ++ textB b)) bs

theorem nmB_size (k : Int) : (nmB k).size ≤ 4 := by
  unfold nmB
  repeat' split
  all_goals decide
theorem linkT_size (x : Int × Int × Int) (h : i64 x.1 ∧ i64 x.2.1 ∧ i64 x.2.2) : (linkT x).size ≤ 62 := by
  unfold linkT
  have h1 := dig_size h.1
  have h2 := dig_size h.2.1
  have h3 := dig_size h.2.2
  simp only [ByteArray.size_append, bsz, List.length_cons, List.length_nil]
  omega
theorem linksT_size : ∀ (ls : List (Int × Int × Int)) (s : ByteArray), (∀ x ∈ ls, i64 x.1 ∧ i64 x.2.1 ∧ i64 x.2.2) → (linksT s ls).size ≤ s.size + 62 * ls.length
  | [], s, _ => by rw [linksT]; simp
  | x :: ls, s, h => by
    rw [linksT]
    have h1 := linksT_size ls (s ++ linkT x) fun y hy => h y (List.mem_cons_of_mem _ hy)
    have h2 := linkT_size x (h x (List.mem_cons_self ..))
    rw [ByteArray.size_append] at h1
    rw [List.length_cons]
    omega
theorem headT_size (k n a : Int) (hn : i64 n) (ha : i64 a) : (headT k n a).size ≤ 46 := by
  have h1 := dig_size hn
  have h2 := dig_size ha
  have h3 := nmB_size k
  unfold headT
  repeat' split
  all_goals
    simp only [ByteArray.size_append, bsz, List.length_cons, List.length_nil]
    omega

/-- all numbers are numbers -/
def okN : Blk → Prop
  | .mk _ n a ks ls => i64 n ∧ i64 a ∧ (∀ x ∈ ls, i64 x.1 ∧ i64 x.2.1 ∧ i64 x.2.2) ∧ go ks
where
  go : List Blk → Prop
  | [] => True
  | b :: bs => okN b ∧ go bs

theorem isB_okN : ∀ (b : Blk) {k n a : Int} {K L : D}, IsB b k n a K L → okN b
  | .mk _ _ _ ks ls, k, n, a, K, L, h => by
    rw [IsB] at h
    obtain ⟨rfl, rfl, rfl, h1, h2, h3, rows, hK, hks, hmax, hL, hlm, hx⟩ := h
    rw [okN]
    exact ⟨h2, h3, hx, go ks hks⟩
where
  go : ∀ (bs : List Blk) {rows : List (List D)}, IsB.IsBs bs rows → okN.go bs
  | [], _, _ => by rw [okN.go]; trivial
  | b :: bs, _, h => by
    rw [IsB.IsBs] at h
    obtain ⟨k, n, a, K', L', rest, rfl, hB, hrest⟩ := h
    rw [okN.go]
    exact ⟨isB_okN b hB, go bs hrest⟩

theorem textB_size : ∀ b, okB b → okN b → ((textB b).size : Int) ≤ 8000 * sizeB b - 1
  | .mk k n a ks ls, h, hn => by
    rw [okB] at h
    rw [okN] at hn
    obtain ⟨h1, h2, h3⟩ := h
    obtain ⟨n1, n2, n3, n4⟩ := hn
    rw [sizeB]
    have p := sizeB_pos.go ks
    have d1 := dig_size n1
    have g := go ks (headT k n a) h3 n4
    have g2 := linksT_size ls (textB.go (headT k n a) ks) n3
    have g3 := headT_size k n a n1 n2
    rw [textB]
    repeat' split
    all_goals
      try simp only [ByteArray.size_append, bsz, List.length_cons, List.length_nil]
      omega
where
  go : ∀ (bs : List Blk) (s : ByteArray), okB.go bs → okN.go bs → ((textB.go s bs).size : Int) ≤ s.size + 8000 * sizeB.go bs
  | [], s, _, _ => by rw [textB.go, sizeB.go]; omega
  | b :: bs, s, h, hn => by
    rw [okB.go] at h
    rw [okN.go] at hn
    rw [textB.go, sizeB.go]
    have h1 := textB_size b h.1 hn.1
    have h2 := go bs (s ++ (⟨#[32]⟩ ++ textB b)) h.2 hn.2
    simp only [ByteArray.size_append, bsz, List.length_cons, List.length_nil] at h2
    omega

theorem links_ev : ∀ (ls : List (Int × Int × Int)) {lr : List (List D)} {L : D} {s : ByteArray} {i : Nat} {bx : List Box} {c : Box}, IsS 3 lr L → lr.drop i = ls.map lnkD → lr.length < 9223372036854775808 → c.all (cellLt (bx.length + 1)) = true → (∀ x ∈ ls, i64 x.1 ∧ i64 x.2.1 ∧ i64 x.2.2) → s.size + 62 * ls.length ≤ 100000000000 →
    ev cfg (.loop 35 22 ⟨(.dead :: .dead :: .dead :: S s :: .dead :: .dead :: .dead :: .dead :: .dead :: .dead :: .dead :: .dead :: .dead :: .dead :: .dead :: .dead :: .dead :: .dead :: .dead :: .dead :: .dead :: .dead :: .dead :: .dead :: .dead :: .dead :: .dead :: .dead :: .dead :: .dead :: .dead :: .dead :: .dead :: .dead :: .dead :: .dead :: .dead :: .dead :: .dead :: .dead :: .dead :: .dead :: .dead :: .dead :: .dead :: .dead :: .dead :: .dead :: .dead :: .dead :: .dead :: .dead :: .dead :: .dead :: .dead :: .dead :: .dead :: .dead :: .dead :: .dead :: .dead :: .dead :: .dead :: .dead :: .dead :: .dead :: .dead :: .dead :: .dead :: .dead :: .dat L :: I lr.length :: I i :: .dead :: .dead :: .dead :: .dead :: .dead :: .dead :: .dead :: .dead :: .dead :: .dead :: .dead :: .dead :: .dead :: .dead :: .dead :: .dead :: .dead :: .dead :: .dead :: .dead :: .dead :: .dead :: .dead :: []), bx ++ [c], bx.length, none, false⟩) = some (.loop (.exit 3) ⟨(.dead :: .dead :: .dead :: S (linksT s ls) :: .dead :: .dead :: .dead :: .dead :: .dead :: .dead :: .dead :: .dead :: .dead :: .dead :: .dead :: .dead :: .dead :: .dead :: .dead :: .dead :: .dead :: .dead :: .dead :: .dead :: .dead :: .dead :: .dead :: .dead :: .dead :: .dead :: .dead :: .dead :: .dead :: .dead :: .dead :: .dead :: .dead :: .dead :: .dead :: .dead :: .dead :: .dead :: .dead :: .dead :: .dead :: .dead :: .dead :: .dead :: .dead :: .dead :: .dead :: .dead :: .dead :: .dead :: .dead :: .dead :: .dead :: .dead :: .dead :: .dead :: .dead :: .dead :: .dead :: .dead :: .dead :: .dead :: .dead :: .dead :: .dead :: .dead :: .dead :: .dead :: .dead :: .dead :: .dead :: .dead :: .dead :: .dead :: .dead :: .dead :: .dead :: .dead :: .dead :: .dead :: .dead :: .dead :: .dead :: .dead :: .dead :: .dead :: .dead :: .dead :: .dead :: .dead :: .dead :: .dead :: []), bx ++ [c], bx.length, none, false⟩)
  | [], lr, L, s, i, bx, c, hL, hr, hmax, hc, hx, hs => by
    rw [linksT]
    exact ev_step cfg (e35b hc (drop_nil hr))
  | x :: ls, lr, L, s, i, bx, c, hL, hr, hmax, hc, hx, hs => by
    rw [List.map_cons] at hr
    obtain ⟨hget, hr', hlt⟩ := drop_cons hr
    obtain ⟨x1, x2, x3⟩ := hx x (List.mem_cons_self ..)
    have d1 := dig_size x1
    have d2 := dig_size x2
    have d3 := dig_size x3
    rw [List.length_cons] at hs
    have h1 := r35b (f := x.1) (t := x.2.1) (w := x.2.2) (s := s) hL hc hget hlt hmax (dig_ev _ x1) (dig_ev _ x2) (dig_ev _ x3)
      (by simp only [ByteArray.size_append, bsz, List.length_cons, List.length_nil]; omega) (by simp only [ByteArray.size_append, bsz, List.length_cons, List.length_nil]; omega) (by simp only [ByteArray.size_append, bsz, List.length_cons, List.length_nil]; omega)
      (by simp only [ByteArray.size_append, bsz, List.length_cons, List.length_nil]; omega) (by simp only [ByteArray.size_append, bsz, List.length_cons, List.length_nil]; omega) (by simp only [ByteArray.size_append, bsz, List.length_cons, List.length_nil]; omega)
      (by simp only [ByteArray.size_append, bsz, List.length_cons, List.length_nil]; omega)
    have h2 := linkT_size x ⟨x1, x2, x3⟩
    rw [linksT]
    exact ev_step cfg (h1.trans (links_ev ls (i := i + 1) (s := s ++ linkT x) hL hr' hmax hc (fun y hy => hx y (List.mem_cons_of_mem _ hy)) (by rw [ByteArray.size_append]; omega)))

theorem rlinks_ev : ∀ (ls : List (Int × Int × Int)) {lr : List (List D)} {L : D} {s : ByteArray} {i : Nat} {bx : List Box} {c : Box}, IsS 3 lr L → lr.drop i = ls.map lnkD → lr.length < 9223372036854775808 → c.all (cellLt (bx.length + 1)) = true → (∀ x ∈ ls, i64 x.1 ∧ i64 x.2.1 ∧ i64 x.2.2) → s.size + 62 * ls.length ≤ 100000000000 →
    ev cfg (.loop 38 22 ⟨(.dead :: .dead :: .dead :: S s :: .dead :: .dead :: .dead :: .dead :: .dead :: .dead :: .dead :: .dead :: .dead :: .dead :: .dead :: .dead :: .dead :: .dead :: .dead :: .dead :: .dead :: .dead :: .dead :: .dead :: .dead :: .dead :: .dead :: .dead :: .dead :: .dead :: .dead :: .dead :: .dead :: .dead :: .dead :: .dead :: .dead :: .dead :: .dead :: .dead :: .dead :: .dead :: .dead :: .dead :: .dead :: .dead :: .dead :: .dead :: .dead :: .dead :: .dead :: .dead :: .dead :: .dead :: .dead :: .dead :: .dead :: .dead :: .dead :: .dead :: .dead :: .dead :: .dead :: .dead :: .dead :: .dead :: .dead :: .dead :: .dead :: .dead :: .dead :: .dead :: .dat L :: I lr.length :: I i :: .dead :: .dead :: .dead :: .dead :: .dead :: .dead :: .dead :: .dead :: .dead :: .dead :: .dead :: .dead :: .dead :: .dead :: .dead :: .dead :: .dead :: .dead :: .dead :: .dead :: .dead :: .dead :: .dead :: []), bx ++ [c], bx.length, none, false⟩) = some (.loop (.exit 3) ⟨(.dead :: .dead :: .dead :: S (linksT s ls) :: .dead :: .dead :: .dead :: .dead :: .dead :: .dead :: .dead :: .dead :: .dead :: .dead :: .dead :: .dead :: .dead :: .dead :: .dead :: .dead :: .dead :: .dead :: .dead :: .dead :: .dead :: .dead :: .dead :: .dead :: .dead :: .dead :: .dead :: .dead :: .dead :: .dead :: .dead :: .dead :: .dead :: .dead :: .dead :: .dead :: .dead :: .dead :: .dead :: .dead :: .dead :: .dead :: .dead :: .dead :: .dead :: .dead :: .dead :: .dead :: .dead :: .dead :: .dead :: .dead :: .dead :: .dead :: .dead :: .dead :: .dead :: .dead :: .dead :: .dead :: .dead :: .dead :: .dead :: .dead :: .dead :: .dead :: .dead :: .dead :: .dead :: .dead :: .dead :: .dead :: .dead :: .dead :: .dead :: .dead :: .dead :: .dead :: .dead :: .dead :: .dead :: .dead :: .dead :: .dead :: .dead :: .dead :: .dead :: .dead :: .dead :: .dead :: .dead :: .dead :: .dead :: .dead :: []), bx ++ [c], bx.length, none, false⟩)
  | [], lr, L, s, i, bx, c, hL, hr, hmax, hc, hx, hs => by
    rw [linksT]
    exact ev_step cfg (e38b hc (drop_nil hr))
  | x :: ls, lr, L, s, i, bx, c, hL, hr, hmax, hc, hx, hs => by
    rw [List.map_cons] at hr
    obtain ⟨hget, hr', hlt⟩ := drop_cons hr
    obtain ⟨x1, x2, x3⟩ := hx x (List.mem_cons_self ..)
    have d1 := dig_size x1
    have d2 := dig_size x2
    have d3 := dig_size x3
    rw [List.length_cons] at hs
    have h1 := r38b (f := x.1) (t := x.2.1) (w := x.2.2) (s := s) hL hc hget hlt hmax (num_ev _ x1) (num_ev _ x2) (num_ev _ x3)
      (by simp only [ByteArray.size_append, bsz, List.length_cons, List.length_nil]; omega) (by simp only [ByteArray.size_append, bsz, List.length_cons, List.length_nil]; omega) (by simp only [ByteArray.size_append, bsz, List.length_cons, List.length_nil]; omega)
      (by simp only [ByteArray.size_append, bsz, List.length_cons, List.length_nil]; omega) (by simp only [ByteArray.size_append, bsz, List.length_cons, List.length_nil]; omega) (by simp only [ByteArray.size_append, bsz, List.length_cons, List.length_nil]; omega)
      (by simp only [ByteArray.size_append, bsz, List.length_cons, List.length_nil]; omega)
    have h2 := linkT_size x ⟨x1, x2, x3⟩
    have e : (((((((s ++ ⟨#[32, 91]⟩) ++ dig x.1) ++ ⟨#[32]⟩) ++ dig x.2.1) ++ ⟨#[32]⟩) ++ dig x.2.2) ++ ⟨#[93]⟩) = s ++ linkT x := by simp only [linkT, ByteArray.append_assoc]
    rw [e] at h1
    rw [linksT]
    exact ev_step cfg (h1.trans (rlinks_ev ls (i := i + 1) (s := s ++ linkT x) hL hr' hmax hc (fun y hy => hx y (List.mem_cons_of_mem _ hy)) (by rw [ByteArray.size_append]; omega)))

theorem kind_of {k : Int} (h1 : decide (k < 1) = false) (h2 : decide (k > 10) = false) : k = 1 ∨ k = 2 ∨ k = 3 ∨ k = 4 ∨ k = 5 ∨ k = 6 ∨ k = 7 ∨ k = 8 ∨ k = 9 ∨ k = 10 := by
  simp only [decide_eq_false_iff_not] at h1 h2; omega

theorem text_ev : ∀ (b : Blk) {k n a : Int} {K L : D}, IsB b k n a K L → badB b = false → okB b → sizeB b ≤ 1000000 → ∀ bx : List Box, ev cfg (.call 35 [.agg [I k, I n, I a, .dat K, .dat L]] bx) = some (.ret (S (textB b)) none)
  | .mk _ _ _ ks ls, k, n, a, K, L, h, hbad, hok, hz, bx => by
    have hnn := isB_okN _ h
    rw [IsB] at h
    obtain ⟨rfl, rfl, rfl, ik, hn, ha, rows, hK, hks, hmax, hL, hlm, hx⟩ := h
    rw [badB, badOne, Bool.or_eq_false_iff, Bool.or_eq_false_iff, Bool.or_eq_false_iff, Bool.or_eq_false_iff, Bool.or_eq_false_iff] at hbad
    obtain ⟨⟨⟨⟨⟨b1, b2⟩, b3⟩, b4⟩, b5⟩, b6⟩ := hbad
    rw [okN] at hnn
    rw [okB] at hok
    obtain ⟨o1, o2, o3⟩ := hok
    rw [sizeB] at hz
    have p := sizeB_pos.go ks
    have d1 := dig_size hn
    have d2 := dig_size ha
    have g3 := headT_size k n a hn ha
    have g := textB_size.go ks (headT k n a) o3 hnn.2.2.2
    have g2 := linksT_size ls (textB.go (headT k n a) ks) hx
    have hloop := fun (bx : List Box) (c : Box) hc => loop ks (i := 0) (s := headT k n a) (bx := bx) (c := c) hK rfl hks (by rw [isBs_len hks]; exact hmax) b6 o3 hnn.2.2.2 (by omega) (by omega) hc
    have hlink := fun (bx : List Box) (c : Box) hc => links_ev ls (i := 0) (s := textB.go (headT k n a) ks) (bx := bx) (c := c) hL rfl (by simpa using hlm) hc hx (by omega)
    rcases kind_of b1 b2 with rfl | rfl | rfl | rfl | rfl | rfl | rfl | rfl | rfl | rfl
    · exact ev_step cfg (f35_1 hK hL)
    · exact ev_step cfg (f35_2 hK hL (dig_ev n hn))
    · exact ev_step cfg (f35_3 (d := ⟨#[]⟩) (t := ⟨#[]⟩) hK hL (hloop bx) (by decide) (by simp only [ByteArray.size_append, bsz, List.length_cons, List.length_nil]; omega))
    · exact ev_step cfg (f35_4 (t := ⟨#[]⟩) hK hL (dig_ev n hn) (hloop bx) (by decide) (by simp only [ByteArray.size_append, bsz, List.length_cons, List.length_nil]; omega) (by simp only [ByteArray.size_append, bsz, List.length_cons, List.length_nil]; omega) (by simp only [ByteArray.size_append, bsz, List.length_cons, List.length_nil]; omega))
    · exact ev_step cfg (f35_5 (t := ⟨#[]⟩) hK hL (dig_ev n hn) (hloop bx) (by decide) (by simp only [ByteArray.size_append, bsz, List.length_cons, List.length_nil]; omega) (by simp only [ByteArray.size_append, bsz, List.length_cons, List.length_nil]; omega) (by simp only [ByteArray.size_append, bsz, List.length_cons, List.length_nil]; omega))
    · exact ev_step cfg (f35_6 (t := ⟨#[]⟩) hK hL (dig_ev n hn) (hloop bx) (by decide) (by simp only [ByteArray.size_append, bsz, List.length_cons, List.length_nil]; omega) (by simp only [ByteArray.size_append, bsz, List.length_cons, List.length_nil]; omega) (by simp only [ByteArray.size_append, bsz, List.length_cons, List.length_nil]; omega))
    · exact ev_step cfg (f35_7 (t := ⟨#[]⟩) hK hL (dig_ev n hn) (dig_ev a ha) (hloop bx) (by decide) (by simp only [ByteArray.size_append, bsz, List.length_cons, List.length_nil]; omega) (by simp only [ByteArray.size_append, bsz, List.length_cons, List.length_nil]; omega) (by simp only [ByteArray.size_append, bsz, List.length_cons, List.length_nil]; omega) (by simp only [ByteArray.size_append, bsz, List.length_cons, List.length_nil]; omega) (by simp only [ByteArray.size_append, bsz, List.length_cons, List.length_nil]; omega))
    · exact ev_step cfg (f35_8 hK hL (dig_ev n hn) (by simp only [ByteArray.size_append, bsz, List.length_cons, List.length_nil]; omega))
    · exact ev_step cfg (f35_9 (d := ⟨#[]⟩) hK hL (hloop bx) (hlink bx) (by decide) (by simp only [ByteArray.size_append, bsz, List.length_cons, List.length_nil]; omega))
    · exact ev_step cfg (f35_10 hK hL)
where
  loop : ∀ (bs : List Blk) {rows rs : List (List D)} {K : D} {s : ByteArray} {i : Nat} {bx : List Box} {c : Box}, IsS 5 rows K → rows.drop i = rs → IsB.IsBs bs rs → rows.length < 9223372036854775808 → badB.go bs = false → okB.go bs → okN.go bs → sizeB.go bs ≤ 1000000 → s.size + 8000 * sizeB.go bs ≤ 100000000000 → c.all (cellLt (bx.length + 1)) = true →
    ev cfg (.loop 35 16 ⟨(.dead :: .ptr bx.length 0 :: .dead :: S s :: .dead :: .dead :: .dead :: .dead :: .dead :: .dead :: .dead :: .dead :: .dead :: .dead :: .dead :: .dead :: .dead :: .dead :: .dead :: .dead :: .dead :: .dead :: .dead :: .dead :: .dead :: .dead :: .dead :: .dead :: .dead :: .dead :: .dead :: .dead :: .dead :: .dead :: .dead :: .dead :: .dead :: .dead :: .dead :: .dead :: .dead :: .dead :: .dead :: .dead :: .dead :: .dead :: .dead :: .dead :: .dead :: .dead :: .dead :: .dead :: .dead :: .dead :: .dat K :: I rows.length :: I i :: .dead :: .dead :: .dead :: .dead :: .dead :: .dead :: .dead :: .dead :: .dead :: .dead :: .dead :: .dead :: .dead :: .dead :: .dead :: .dead :: .dead :: .dead :: .dead :: .dead :: .dead :: .dead :: .dead :: .dead :: .dead :: .dead :: .dead :: .dead :: .dead :: .dead :: .dead :: .dead :: .dead :: .dead :: .dead :: .dead :: .dead :: .dead :: .dead :: []), bx ++ [c], bx.length, none, false⟩) = some (.loop (.exit 1) ⟨(.dead :: .ptr bx.length 0 :: .dead :: S (textB.go s bs) :: .dead :: .dead :: .dead :: .dead :: .dead :: .dead :: .dead :: .dead :: .dead :: .dead :: .dead :: .dead :: .dead :: .dead :: .dead :: .dead :: .dead :: .dead :: .dead :: .dead :: .dead :: .dead :: .dead :: .dead :: .dead :: .dead :: .dead :: .dead :: .dead :: .dead :: .dead :: .dead :: .dead :: .dead :: .dead :: .dead :: .dead :: .dead :: .dead :: .dead :: .dead :: .dead :: .dead :: .dead :: .dead :: .dead :: .dead :: .dead :: .dead :: .dead :: .dead :: .dead :: .dead :: .dead :: .dead :: .dead :: .dead :: .dead :: .dead :: .dead :: .dead :: .dead :: .dead :: .dead :: .dead :: .dead :: .dead :: .dead :: .dead :: .dead :: .dead :: .dead :: .dead :: .dead :: .dead :: .dead :: .dead :: .dead :: .dead :: .dead :: .dead :: .dead :: .dead :: .dead :: .dead :: .dead :: .dead :: .dead :: .dead :: .dead :: .dead :: .dead :: []), bx ++ [c], bx.length, none, false⟩)
  | [], rows, rs, K, s, i, bx, c, hK, hr, hbs, hmax, hbad, hok, hn, hz, hs, hc => by
    rw [IsB.IsBs] at hbs
    subst hbs
    rw [textB.go]
    exact ev_step cfg (e35 hc (drop_nil hr))
  | b :: bs, rows, rs, K, s, i, bx, c, hK, hr, hbs, hmax, hbad, hok, hn, hz, hs, hc => by
    rw [IsB.IsBs] at hbs
    obtain ⟨k, n, a, K', L', rest, rfl, hB, hrest⟩ := hbs
    obtain ⟨hget, hr', hlt⟩ := drop_cons hr
    rw [badB.go, Bool.or_eq_false_iff] at hbad
    rw [okB.go] at hok
    rw [okN.go] at hn
    rw [sizeB.go] at hz hs
    have p1 := sizeB_pos b
    have p2 := sizeB_pos.go bs
    have ht := textB_size b hok.1 hn.1
    have h1 := r35 (s := s) hK hc hget hlt hmax (isB_one hB).1 (isB_one hB).2 (text_ev b hB hbad.1 hok.1 (by omega)) (by simp only [ByteArray.size_append, bsz, List.length_cons, List.length_nil]; omega) (by simp only [ByteArray.size_append, bsz, List.length_cons, List.length_nil]; omega)
    rw [textB.go]
    exact ev_step cfg (h1.trans (loop bs (i := i + 1) (s := s ++ (⟨#[32]⟩ ++ textB b)) hK hr' hrest hmax hbad.2 hok.2 hn.2 (by omega) (by simp only [ByteArray.size_append, bsz, List.length_cons, List.length_nil]; omega) hc))

theorem plain_ev : ∀ (b : Blk) {k n a : Int} {K L : D}, IsB b k n a K L → badB b = false → okB b → sizeB b ≤ 1000000 → ∀ bx : List Box, ev cfg (.call 38 [.agg [I k, I n, I a, .dat K, .dat L]] bx) = some (.ret (S (textB b)) none)
  | .mk _ _ _ ks ls, k, n, a, K, L, h, hbad, hok, hz, bx => by
    have hnn := isB_okN _ h
    rw [IsB] at h
    obtain ⟨rfl, rfl, rfl, ik, hn, ha, rows, hK, hks, hmax, hL, hlm, hx⟩ := h
    rw [badB, badOne, Bool.or_eq_false_iff, Bool.or_eq_false_iff, Bool.or_eq_false_iff, Bool.or_eq_false_iff, Bool.or_eq_false_iff] at hbad
    obtain ⟨⟨⟨⟨⟨b1, b2⟩, b3⟩, b4⟩, b5⟩, b6⟩ := hbad
    rw [okN] at hnn
    rw [okB] at hok
    obtain ⟨o1, o2, o3⟩ := hok
    rw [sizeB] at hz
    have p := sizeB_pos.go ks
    have d1 := dig_size hn
    have d2 := dig_size ha
    have g3 := headT_size k n a hn ha
    have g := textB_size.go ks (headT k n a) o3 hnn.2.2.2
    have g2 := linksT_size ls (textB.go (headT k n a) ks) hx
    have hloop := fun (bx : List Box) (c : Box) hc => loop ks (i := 0) (s := headT k n a) (bx := bx) (c := c) hK rfl hks (by rw [isBs_len hks]; exact hmax) b6 o3 hnn.2.2.2 (by omega) (by omega) hc
    have hlink := fun (bx : List Box) (c : Box) hc => rlinks_ev ls (i := 0) (s := textB.go (headT k n a) ks) (bx := bx) (c := c) hL rfl (by simpa using hlm) hc hx (by omega)
    rcases kind_of b1 b2 with rfl | rfl | rfl | rfl | rfl | rfl | rfl | rfl | rfl | rfl
    · exact ev_step cfg (f38_1 hK hL)
    · exact ev_step cfg (f38_2 hK hL (num_ev n hn))
    · exact ev_step cfg (f38_3 (d := ⟨#[]⟩) (t := ⟨#[]⟩) hK hL (hloop bx) (by decide) (by simp only [ByteArray.size_append, bsz, List.length_cons, List.length_nil]; omega))
    · have e : (((⟨#[40]⟩ ++ nmB 4) ++ ⟨#[58]⟩) ++ dig n : ByteArray) = headT 4 n a := by
        rw [ByteArray.append_assoc]; rfl
      exact ev_step cfg (f38_4 (t := ⟨#[]⟩) hK hL (num_ev n hn) (by rw [← e] at hloop; exact hloop bx) (by decide) (by simp only [ByteArray.size_append, bsz, List.length_cons, List.length_nil]; omega) (by simp only [ByteArray.size_append, bsz, List.length_cons, List.length_nil]; omega) (by simp only [ByteArray.size_append, bsz, List.length_cons, List.length_nil]; omega))
    · have e : (((⟨#[40]⟩ ++ nmB 5) ++ ⟨#[58]⟩) ++ dig n : ByteArray) = headT 5 n a := by
        rw [ByteArray.append_assoc]; rfl
      exact ev_step cfg (f38_5 (t := ⟨#[]⟩) hK hL (num_ev n hn) (by rw [← e] at hloop; exact hloop bx) (by decide) (by simp only [ByteArray.size_append, bsz, List.length_cons, List.length_nil]; omega) (by simp only [ByteArray.size_append, bsz, List.length_cons, List.length_nil]; omega) (by simp only [ByteArray.size_append, bsz, List.length_cons, List.length_nil]; omega))
    · have e : (((⟨#[40]⟩ ++ nmB 6) ++ ⟨#[58]⟩) ++ dig n : ByteArray) = headT 6 n a := by
        rw [ByteArray.append_assoc]; rfl
      exact ev_step cfg (f38_6 (t := ⟨#[]⟩) hK hL (num_ev n hn) (by rw [← e] at hloop; exact hloop bx) (by decide) (by simp only [ByteArray.size_append, bsz, List.length_cons, List.length_nil]; omega) (by simp only [ByteArray.size_append, bsz, List.length_cons, List.length_nil]; omega) (by simp only [ByteArray.size_append, bsz, List.length_cons, List.length_nil]; omega))
    · have e : (((((⟨#[40]⟩ ++ nmB 7) ++ ⟨#[58]⟩) ++ dig n) ++ ⟨#[47]⟩) ++ dig a : ByteArray) = headT 7 n a := by
        simp only [ByteArray.append_assoc, headT]; rfl
      exact ev_step cfg (f38_7 (t := ⟨#[]⟩) hK hL (num_ev n hn) (num_ev a ha) (fun c hc => by rw [show (⟨#[40]⟩ ++ ⟨#[108, 111, 111, 112]⟩ ++ ⟨#[58]⟩ ++ dig n ++ ⟨#[47]⟩ ++ dig a : ByteArray) = headT 7 n a from e]; exact hloop bx c hc) (by decide) (by simp only [ByteArray.size_append, bsz, List.length_cons, List.length_nil]; omega) (by simp only [ByteArray.size_append, bsz, List.length_cons, List.length_nil]; omega) (by simp only [ByteArray.size_append, bsz, List.length_cons, List.length_nil]; omega) (by simp only [ByteArray.size_append, bsz, List.length_cons, List.length_nil]; omega) (by simp only [ByteArray.size_append, bsz, List.length_cons, List.length_nil]; omega))
    · exact ev_step cfg (f38_8 hK hL (num_ev n hn) (by simp only [ByteArray.size_append, bsz, List.length_cons, List.length_nil]; omega))
    · exact ev_step cfg (f38_9 (d := ⟨#[]⟩) hK hL (hloop bx) (hlink bx) (by decide) (by simp only [ByteArray.size_append, bsz, List.length_cons, List.length_nil]; omega))
    · exact ev_step cfg (f38_10 hK hL)
where
  loop : ∀ (bs : List Blk) {rows rs : List (List D)} {K : D} {s : ByteArray} {i : Nat} {bx : List Box} {c : Box}, IsS 5 rows K → rows.drop i = rs → IsB.IsBs bs rs → rows.length < 9223372036854775808 → badB.go bs = false → okB.go bs → okN.go bs → sizeB.go bs ≤ 1000000 → s.size + 8000 * sizeB.go bs ≤ 100000000000 → c.all (cellLt (bx.length + 1)) = true →
    ev cfg (.loop 38 16 ⟨(.dead :: .ptr bx.length 0 :: .dead :: S s :: .dead :: .dead :: .dead :: .dead :: .dead :: .dead :: .dead :: .dead :: .dead :: .dead :: .dead :: .dead :: .dead :: .dead :: .dead :: .dead :: .dead :: .dead :: .dead :: .dead :: .dead :: .dead :: .dead :: .dead :: .dead :: .dead :: .dead :: .dead :: .dead :: .dead :: .dead :: .dead :: .dead :: .dead :: .dead :: .dead :: .dead :: .dead :: .dead :: .dead :: .dead :: .dead :: .dead :: .dead :: .dead :: .dead :: .dead :: .dead :: .dead :: .dead :: .dead :: .dead :: .dat K :: I rows.length :: I i :: .dead :: .dead :: .dead :: .dead :: .dead :: .dead :: .dead :: .dead :: .dead :: .dead :: .dead :: .dead :: .dead :: .dead :: .dead :: .dead :: .dead :: .dead :: .dead :: .dead :: .dead :: .dead :: .dead :: .dead :: .dead :: .dead :: .dead :: .dead :: .dead :: .dead :: .dead :: .dead :: .dead :: .dead :: .dead :: .dead :: .dead :: .dead :: .dead :: []), bx ++ [c], bx.length, none, false⟩) = some (.loop (.exit 1) ⟨(.dead :: .ptr bx.length 0 :: .dead :: S (textB.go s bs) :: .dead :: .dead :: .dead :: .dead :: .dead :: .dead :: .dead :: .dead :: .dead :: .dead :: .dead :: .dead :: .dead :: .dead :: .dead :: .dead :: .dead :: .dead :: .dead :: .dead :: .dead :: .dead :: .dead :: .dead :: .dead :: .dead :: .dead :: .dead :: .dead :: .dead :: .dead :: .dead :: .dead :: .dead :: .dead :: .dead :: .dead :: .dead :: .dead :: .dead :: .dead :: .dead :: .dead :: .dead :: .dead :: .dead :: .dead :: .dead :: .dead :: .dead :: .dead :: .dead :: .dead :: .dead :: .dead :: .dead :: .dead :: .dead :: .dead :: .dead :: .dead :: .dead :: .dead :: .dead :: .dead :: .dead :: .dead :: .dead :: .dead :: .dead :: .dead :: .dead :: .dead :: .dead :: .dead :: .dead :: .dead :: .dead :: .dead :: .dead :: .dead :: .dead :: .dead :: .dead :: .dead :: .dead :: .dead :: .dead :: .dead :: .dead :: .dead :: .dead :: .dead :: .dead :: []), bx ++ [c], bx.length, none, false⟩)
  | [], rows, rs, K, s, i, bx, c, hK, hr, hbs, hmax, hbad, hok, hn, hz, hs, hc => by
    rw [IsB.IsBs] at hbs
    subst hbs
    rw [textB.go]
    exact ev_step cfg (e38 hc (drop_nil hr))
  | b :: bs, rows, rs, K, s, i, bx, c, hK, hr, hbs, hmax, hbad, hok, hn, hz, hs, hc => by
    rw [IsB.IsBs] at hbs
    obtain ⟨k, n, a, K', L', rest, rfl, hB, hrest⟩ := hbs
    obtain ⟨hget, hr', hlt⟩ := drop_cons hr
    rw [badB.go, Bool.or_eq_false_iff] at hbad
    rw [okB.go] at hok
    rw [okN.go] at hn
    rw [sizeB.go] at hz hs
    have p1 := sizeB_pos b
    have p2 := sizeB_pos.go bs
    have ht := textB_size b hok.1 hn.1
    have h1 := r38 (s := s) hK hc hget hlt hmax (isB_one hB).1 (isB_one hB).2 (plain_ev b hB hbad.1 hok.1 (by omega)) (by simp only [ByteArray.size_append, bsz, List.length_cons, List.length_nil]; omega) (by simp only [ByteArray.size_append, bsz, List.length_cons, List.length_nil]; omega)
    rw [textB.go]
    rw [ByteArray.append_assoc] at h1
    exact ev_step cfg (h1.trans (loop bs (i := i + 1) (s := s ++ (⟨#[32]⟩ ++ textB b)) hK hr' hrest hmax hbad.2 hok.2 hn.2 (by omega) (by simp only [ByteArray.size_append, bsz, List.length_cons, List.length_nil]; omega) hc))

end Go.Proofs.YtgppmcpbphgnnaaDoor
