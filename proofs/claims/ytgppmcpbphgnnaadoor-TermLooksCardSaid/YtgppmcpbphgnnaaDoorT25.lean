/- What Parse, the plain comparison, Size and less answer. No condition. -/
import Derived.Test.YtgppmcpbphgnnaaDoorT6
import Derived.Test.YtgppmcpbphgnnaaDoorT19
import Derived.Test.YtgppmcpbphgnnaaDoorT24
set_option linter.unusedSimpArgs false
set_option linter.unusedVariables false
set_option linter.unusedSectionVars false
namespace Go.Proofs.YtgppmcpbphgnnaaDoor
open Go Go.Vx
set_option maxRecDepth 10000

def zeroT : Trm := .mk 0 0 []
def parseT (l : List UInt8) : Trm × Int := if decide ((l.length : Int) > 20000) = true then (zeroT, 2) else match readP 24 l with
  | some (t, r) => if (r == []) = true then (t, 0) else (zeroT, 4)
  | none => (zeroT, 4)

theorem bs_eq (b : ByteArray) : b = bsT b.data.toList := by
  apply ByteArray.ext
  simp [bsT]
theorem zero_is : IsT zeroT 0 0 .nil := isT_leaf (by unfold i64; omega) (by unfold i64; omega)

theorem parse_ev (l : List UInt8) (hl : l.length ≤ 21000) : ∃ o n K, IsT (parseT l).1 o n K ∧ ∀ bx : List Box, ev cfg (.call 25 [S (bsT l)] bx) = some (.ret (.tup [.agg [I o, I n, .dat K], I (parseT l).2]) none) := by
  unfold parseT
  cases hlong : decide ((l.length : Int) > 20000) with
  | true =>
    rw [if_pos rfl]
    exact ⟨0, 0, .nil, zero_is, fun bx => ev_step cfg (f25_long hlong)⟩
  | false =>
    rw [if_neg (by decide)]
    obtain ⟨o, n, K, r, ok, hev, hK, hres⟩ := read_ev 24 1 rfl (by decide) l hl
    rw [bs_eq r] at hev
    have h := fun bx => ev_step cfg (f25 (bx := bx) hlong hK hev)
    cases hr : readP 24 l with
    | none =>
      rw [hr] at hres
      simp only at hres
      subst hres
      rw [Bool.false_and, if_neg (by decide)] at h
      exact ⟨0, 0, .nil, zero_is, h⟩
    | some p =>
      obtain ⟨t, r'⟩ := p
      rw [hr] at hres
      simp only at hres
      obtain ⟨rfl, rfl, hT⟩ := hres
      have e : (bsT r').data.toList = r' := by simp [bsT]
      rw [e, Bool.true_and] at h
      simp only
      cases hc : (r' == []) with
      | true =>
        rw [hc, if_pos rfl] at h
        rw [if_pos rfl]
        exact ⟨o, n, K, hT, h⟩
      | false =>
        rw [hc, if_neg (by decide)] at h
        rw [if_neg (by decide)]
        exact ⟨0, 0, .nil, zero_is, h⟩

theorem rparse_ev (l : List UInt8) (hl : l.length ≤ 21000) : ∃ o n K, IsT (parseT l).1 o n K ∧ ∀ bx : List Box, ev cfg (.call 26 [S (bsT l)] bx) = some (.ret (.tup [.agg [I o, I n, .dat K], I (parseT l).2]) none) := by
  unfold parseT
  cases hlong : decide ((l.length : Int) > 20000) with
  | true =>
    rw [if_pos rfl]
    exact ⟨0, 0, .nil, zero_is, fun bx => ev_step cfg (f26_long hlong)⟩
  | false =>
    rw [if_neg (by decide)]
    obtain ⟨a, n, K, e, hev, hK, hres⟩ := rread_ev hl 24 1 rfl (by decide) 0 (Nat.zero_le _)
    have h := fun bx => ev_step cfg (f26 (bx := bx) hlong hK hev)
    rw [List.drop_zero] at hres
    have hrel := read_rel 24 l
    have bad_nil : ¬ bad [] := by rintro ⟨x, xs, h, _⟩; cases h
    by_cases hok : ∃ t, readQ 24 l = some (t, [])
    · obtain ⟨t, ht⟩ := hok
      rcases hrel.2 t [] ht with hp | hb
      · rw [hp]
        rw [ht] at hres
        simp only at hres
        obtain ⟨⟨j, hj, hr, rfl⟩, hT⟩ := hres
        have hjl : j = l.length := by
          have := List.drop_eq_nil_iff.1 hr.symm
          omega
        subst hjl
        have e : ((l.length : Int) != (l.length : Int)) = false := by simp
        rw [e, if_neg (by decide)] at h
        exact ⟨a, n, K, hT, h⟩
      · exact (bad_nil hb).elim
    · have hne : (e != (l.length : Int)) = true := by
        cases hq : readQ 24 l with
        | none =>
          rw [hq] at hres
          have : e < 0 := by simpa using hres
          have : ¬ e = (l.length : Int) := by omega
          simpa using this
        | some p =>
          obtain ⟨t, r⟩ := p
          rw [hq] at hres
          simp only at hres
          obtain ⟨⟨j, hj, hr, rfl⟩, hT⟩ := hres
          have : ¬ j = l.length := by
            rintro rfl
            rw [List.drop_length] at hr
            exact hok ⟨t, by rw [hq, hr]⟩
          have : ¬ (j : Int) = (l.length : Int) := by omega
          simpa using this
      rw [hne, if_pos rfl] at h
      have hz : (match readP 24 l with | some (t, r) => if (r == []) = true then (t, (0 : Int)) else (zeroT, 4) | none => (zeroT, 4)) = (zeroT, 4) := by
        cases hp : readP 24 l with
        | none => rfl
        | some p =>
          obtain ⟨t, r⟩ := p
          simp only
          cases r with
          | nil => exact (hok ⟨t, hrel.1 t [] hp⟩).elim
          | cons => rfl
      rw [hz]
      exact ⟨0, 0, .nil, zero_is, h⟩

/-! ### the plain comparison -/
theorem same_ev : ∀ (t : Trm) {o n o2 n2 : Int} {K K2 : D}, IsT t o n K → IsT t o2 n2 K2 → ∀ bx : List Box, ev cfg (.call 27 [.agg [I o, I n, .dat K], .agg [I o2, I n2, .dat K2]] bx) = some (.ret (B true) none)
  | .mk _ _ ks, o, n, o2, n2, K, K2, h, h2, bx => by
    rw [IsT] at h h2
    obtain ⟨rfl, rfl, _, _, rows, hK, hks, hmax⟩ := h
    obtain ⟨rfl, rfl, _, _, rows2, hK2, hks2, _⟩ := h2
    have l1 := isTs_len hks
    have l2 := isTs_len hks2
    refine ev_step cfg (f27 (b := true) hK hK2 (by simp) (by simp) (by rw [l1, l2]; simp) ?_)
    rw [if_pos rfl]
    exact loop ks (i := 0) hK hK2 rfl rfl hks hks2 (by rw [l1]; exact hmax) bx
where
  loop : ∀ (bs : List Trm) {rows rs rows2 rs2 : List (List D)} {K K2 : D} {i : Nat} {a1 m1 a2 m2 : Int}, IsS 3 rows K → IsS 3 rows2 K2 → rows.drop i = rs → rows2.drop i = rs2 → IsT.IsTs bs rs → IsT.IsTs bs rs2 → rows.length < 9223372036854775808 → ∀ bx : List Box,
    ev cfg (.loop 27 4 ⟨(.dead :: .dead :: .ptr bx.length 0 :: .ptr (bx.length + 1) 0 :: .dead :: .dead :: .dead :: .dead :: .dead :: .dead :: .dead :: .dead :: .dead :: .dead :: .dead :: .dead :: .dead :: .dead :: .dead :: .dead :: .dead :: .dead :: .dead :: .dead :: .dead :: .dead :: .dead :: .dead :: .dead :: I rows.length :: I i :: .dead :: .dead :: .dead :: .dead :: .dead :: .dead :: .dead :: .dead :: .dead :: .dead :: .dead :: .dead :: .dead :: .dead :: .dead :: []), bx ++ [[I a1, I m1, .dat K], [I a2, I m2, .dat K2]], bx.length, none, false⟩) =
      some (.loop (.exit 0) ⟨(.dead :: .dead :: .dead :: .dead :: .dead :: .dead :: .dead :: .dead :: .dead :: .dead :: .dead :: .dead :: .dead :: .dead :: .dead :: .dead :: .dead :: .dead :: .dead :: .dead :: .dead :: .dead :: .dead :: .dead :: .dead :: .dead :: .dead :: .dead :: .dead :: .dead :: .dead :: .dead :: .dead :: .dead :: .dead :: .dead :: .dead :: .dead :: .dead :: .dead :: .dead :: .dead :: .dead :: .dead :: .dead :: .dead :: []), bx ++ [[I a1, I m1, .dat K], [I a2, I m2, .dat K2]], bx.length, none, false⟩)
  | [], rows, rs, rows2, rs2, K, K2, i, a1, m1, a2, m2, hK, hK2, hr, hr2, hbs, hbs2, hmax, bx => by
    rw [IsT.IsTs] at hbs
    subst hbs
    exact ev_step cfg (e27 (drop_nil hr))
  | b :: bs, rows, rs, rows2, rs2, K, K2, i, a1, m1, a2, m2, hK, hK2, hr, hr2, hbs, hbs2, hmax, bx => by
    rw [IsT.IsTs] at hbs hbs2
    obtain ⟨o, n, K', rest, rfl, hB, hrest⟩ := hbs
    obtain ⟨o2, n2, K2', rest2, rfl, hB2, hrest2⟩ := hbs2
    obtain ⟨hget, hr', hlt⟩ := drop_cons hr
    obtain ⟨hget2, hr2', hlt2⟩ := drop_cons hr2
    have h1 := r27 (bx := bx) (b := true) (a1 := a1) (m1 := m1) (a2 := a2) (m2 := m2) hK hK2 hget hget2 hlt hlt2 hmax (isT_one hB) (isT_one hB2) (same_ev b hB hB2)
    rw [if_pos rfl] at h1
    exact ev_step cfg (h1.trans (loop bs (i := i + 1) hK hK2 hr' hr2' hrest hrest2 hmax bx))

/-! ### Size -/
theorem size_ev : ∀ (b : Trm) {op n : Int} {K : D}, IsT b op n K → sizeT b ≤ 1000000 → ∀ bx : List Box, ev cfg (.call 31 [.agg [I op, I n, .dat K]] bx) = some (.ret (I (sizeT b)) none)
  | .mk _ _ ks, op, n, K, h, hz, bx => by
    rw [IsT] at h
    obtain ⟨rfl, rfl, _, _, rows, hK, hks, hmax⟩ := h
    rw [sizeT] at hz ⊢
    exact ev_step cfg (f31 hK fun c hc => loop ks (i := 0) hK rfl hks (by rw [isTs_len hks]; exact hmax) (by decide) hz bx hc)
where
  loop : ∀ (bs : List Trm) {rows rs : List (List D)} {K : D} {i : Nat} {m : Int} {c : Box}, IsS 3 rows K → rows.drop i = rs → IsT.IsTs bs rs → rows.length < 9223372036854775808 → 0 ≤ m → m + sizeT.go bs ≤ 1000000 → ∀ bx : List Box, c.all (cellLt (bx.length + 1)) = true →
    ev cfg (.loop 31 3 ⟨(.dead :: .dead :: .dead :: I m :: .dead :: .dead :: .dead :: .dat K :: I rows.length :: I i :: .dead :: .dead :: .dead :: .dead :: .dead :: .dead :: .dead :: .dead :: .dead :: []), bx ++ [c], bx.length, none, false⟩) = some (.loop (.exit 0) ⟨(.dead :: .dead :: .dead :: I (m + sizeT.go bs) :: .dead :: .dead :: .dead :: .dead :: .dead :: .dead :: .dead :: .dead :: .dead :: .dead :: .dead :: .dead :: .dead :: .dead :: .dead :: []), bx ++ [c], bx.length, none, false⟩)
  | [], rows, rs, K, i, m, c, hK, hr, hbs, hmax, h0, hz, bx, hc => by
    rw [IsT.IsTs] at hbs
    subst hbs
    rw [sizeT.go, Int.add_zero]
    exact ev_step cfg (e31 hc (drop_nil hr))
  | b :: bs, rows, rs, K, i, m, c, hK, hr, hbs, hmax, h0, hz, bx, hc => by
    rw [IsT.IsTs] at hbs
    obtain ⟨op, n, K', rest, rfl, hB, hrest⟩ := hbs
    obtain ⟨hget, hr', hlt⟩ := drop_cons hr
    rw [sizeT.go] at hz ⊢
    have p1 := sizeT_pos b
    have p2 := sizeT_pos.go bs
    have h1 := r31 (x := sizeT b) (m := m) hK hc hget hlt hmax (isT_one hB) (wrap_lo (by omega) (by omega)) (size_ev b hB (by omega))
    have h2 := loop bs (i := i + 1) (m := m + sizeT b) hK hr' hrest hmax (by omega) (by omega) bx hc
    rw [Int.add_assoc] at h2
    exact ev_step cfg (h1.trans h2)
end Go.Proofs.YtgppmcpbphgnnaaDoor
