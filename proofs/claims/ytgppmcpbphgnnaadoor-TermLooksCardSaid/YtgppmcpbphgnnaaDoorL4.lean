/- The law TermLooks answers true. No condition. -/
import Derived.Test.YtgppmcpbphgnnaaDoorL2
import Derived.Test.YtgppmcpbphgnnaaDoorL3
import Derived.Test.YtgppmcpbphgnnaaDoorT27
set_option linter.unusedSimpArgs false
set_option linter.unusedVariables false
set_option linter.unusedSectionVars false
namespace Go.Proofs.YtgppmcpbphgnnaaDoor
open Go Go.Vx
set_option maxRecDepth 10000

theorem rows_get {zs : List Int} {i : Nat} (h : i < zs.length) : (rowsOf zs)[i]? = some [dI zs[i]] := by simp [rowsOf, h]
theorem lst_of (zs : List Int) : ∃ A, Lst (rowsOf zs) (XI zs) A ∧ (zs ≠ [] → XI zs = .own true 1 (rowsOf zs) ∧ A = .alias (.tmp 5)) := by
  cases zs with
  | nil => exact ⟨.dat .nil, .inr ⟨rfl, rfl, rfl⟩, fun h => absurd rfl h⟩
  | cons z zs => exact ⟨.alias (.tmp 5), .inl ⟨rfl, rfl⟩, fun _ => ⟨rfl, rfl⟩⟩

section
variable {a : Trm} {op n op2 n2 m1 m2 : Int} {K K2 : D} {bx : List Box} {A : PV}

theorem loop5 (h : IsT a op n K) (hz : ((varsT a).length : Int) ≤ 100000) (hX : Lst (rowsOf (varsT a)) (XI (varsT a)) A) (hA : varsT a ≠ [] → XI (varsT a) = .own true 1 (rowsOf (varsT a)) ∧ A = .alias (.tmp 5)) : ∀ (k i : Nat), i + k = (varsT a).length →
    ev cfg (.loop 9 5 ⟨(.dead :: .dead :: .ptr bx.length 0 :: .ptr (bx.length + 1) 0 :: .dead :: XI (varsT a) :: .dead :: .dead :: .dead :: .dead :: .dead :: .dead :: .dead :: .dead :: .dead :: .dead :: .dead :: .dead :: .dead :: .dead :: .dead :: .dead :: .dead :: .dead :: .dead :: A :: I (rowsOf (varsT a)).length :: I i :: .dead :: .dead :: .dead :: .dead :: .dead :: .dead :: .dead :: .dead :: .dead :: .dead :: .dead :: .dead :: .dead :: .dead :: .dead :: .dead :: .dead :: .dead :: .dead :: .dead :: .dead :: .dead :: .dead :: .dead :: .dead :: .dead :: .dead :: .dead :: .dead :: .dead :: .dead :: .dead :: .dead :: .dead :: .dead :: .dead :: .dead :: .dead :: .dead :: .dead :: .dead :: .dead :: .dead :: .dead :: .dead :: .dead :: .dead :: .dead :: .dead :: .dead :: .dead :: .dead :: .dead :: .dead :: .dead :: .dead :: .dead :: .dead :: .dead :: .dead :: .dead :: []), bx ++ [[I op, I n, .dat K], [I op2, I n2, .dat K2], [I m1], [I m2]], bx.length, none, false⟩) =
      some (.loop (.exit 0) ⟨(.dead :: .dead :: .ptr bx.length 0 :: .ptr (bx.length + 1) 0 :: .dead :: XI (varsT a) :: .dead :: .dead :: .dead :: .dead :: .dead :: .dead :: .dead :: .dead :: .dead :: .dead :: .dead :: .dead :: .dead :: .dead :: .dead :: .dead :: .dead :: .dead :: .dead :: .dead :: .dead :: .dead :: .dead :: .dead :: .dead :: .dead :: .dead :: .dead :: .dead :: .dead :: .dead :: .dead :: .dead :: .dead :: .dead :: .dead :: .dead :: .dead :: .dead :: .dead :: .dead :: .dead :: .dead :: .dead :: .dead :: .dead :: .dead :: .dead :: .dead :: .dead :: .dead :: .dead :: .dead :: .dead :: .dead :: .dead :: .dead :: .dead :: .dead :: .dead :: .dead :: .dead :: .dead :: .dead :: .dead :: .dead :: .dead :: .dead :: .dead :: .dead :: .dead :: .dead :: .dead :: .dead :: .dead :: .dead :: .dead :: .dead :: .dead :: .dead :: .dead :: .dead :: .dead :: []), bx ++ [[I op, I n, .dat K], [I op2, I n2, .dat K2], [I m1], [I m2]], bx.length, none, false⟩)
  | 0, i, hk => ev_step cfg (e9a hX (by rw [rowsOf_len]; omega))
  | k + 1, i, hk => by
    have hne : varsT a ≠ [] := by intro e; rw [e] at hk; simp at hk
    have ih := loop5 h hz hX hA k (i + 1) (by omega)
    obtain ⟨e1, e2⟩ := hA hne
    rw [e1, e2] at ih ⊢
    have hlt : i < (varsT a).length := by omega
    have hlt' : i < (rowsOf (varsT a)).length := by rw [rowsOf_len]; exact hlt
    have hmem : hasT (varsT a)[i] a = true := (mem_vars _ a).1 (List.getElem_mem hlt)
    have hh := has_ev (varsT a)[i] a h
    rw [hmem] at hh
    cases i with
    | zero => exact ev_step cfg ((r9a_0 (rows_get hlt) hlt' (isT_one h) hh).trans ih)
    | succ j =>
      have hj : j < (varsT a).length := by omega
      have hs := (List.pairwise_iff_getElem.1 (vars_sorted a)) j (j + 1) hj hlt (by omega)
      exact ev_step cfg ((r9a_s (rows_get hlt) (rows_get hj) hlt' (by rw [rowsOf_len]; omega) (isT_one h) (decide_eq_false (by omega)) hh (by rw [wrap_lo (by omega) (by omega)]; omega) (by rw [rowsOf_len]; exact hj)).trans ih)

theorem loop15 (m : Int) (hz : ((varsT a).length : Int) ≤ 100000) (hX : Lst (rowsOf (varsT a)) (XI (varsT a)) A) (hA : varsT a ≠ [] → XI (varsT a) = .own true 1 (rowsOf (varsT a)) ∧ A = .alias (.tmp 5)) : ∀ (s : List Int) (i : Nat) (b : Bool), (varsT a).drop i = s →
    ev cfg (.loop 9 15 ⟨(.dead :: .dead :: .ptr bx.length 0 :: .ptr (bx.length + 1) 0 :: .dead :: XI (varsT a) :: .dead :: .dead :: I m :: B b :: .dead :: .dead :: .dead :: .dead :: .dead :: .dead :: .dead :: .dead :: .dead :: .dead :: .dead :: .dead :: .dead :: .dead :: .dead :: .dead :: .dead :: .dead :: .dead :: .dead :: .dead :: .dead :: .dead :: .dead :: .dead :: .dead :: .dead :: .dead :: .dead :: .dead :: .dead :: .dead :: .dead :: .dead :: .dead :: .dead :: .dead :: .dead :: .dead :: .dead :: .dead :: .dead :: .dead :: .dead :: A :: I (rowsOf (varsT a)).length :: I i :: .dead :: .dead :: .dead :: .dead :: .dead :: .dead :: .dead :: .dead :: .dead :: .dead :: .dead :: .dead :: .dead :: .dead :: .dead :: .dead :: .dead :: .dead :: .dead :: .dead :: .dead :: .dead :: .dead :: .dead :: .dead :: .dead :: .dead :: .dead :: .dead :: .dead :: .dead :: .dead :: []), bx ++ [[I op, I n, .dat K], [I op2, I n2, .dat K2], [I m1], [I m2]], bx.length, none, false⟩) =
      some (.loop (.exit 4) ⟨(.dead :: .dead :: .ptr bx.length 0 :: .ptr (bx.length + 1) 0 :: .dead :: XI (varsT a) :: .dead :: .dead :: I m :: B (b || s.any (· == m)) :: .dead :: .dead :: .dead :: .dead :: .dead :: .dead :: .dead :: .dead :: .dead :: .dead :: .dead :: .dead :: .dead :: .dead :: .dead :: .dead :: .dead :: .dead :: .dead :: .dead :: .dead :: .dead :: .dead :: .dead :: .dead :: .dead :: .dead :: .dead :: .dead :: .dead :: .dead :: .dead :: .dead :: .dead :: .dead :: .dead :: .dead :: .dead :: .dead :: .dead :: .dead :: .dead :: .dead :: .dead :: .dead :: .dead :: .dead :: .dead :: .dead :: .dead :: .dead :: .dead :: .dead :: .dead :: .dead :: .dead :: .dead :: .dead :: .dead :: .dead :: .dead :: .dead :: .dead :: .dead :: .dead :: .dead :: .dead :: .dead :: .dead :: .dead :: .dead :: .dead :: .dead :: .dead :: .dead :: .dead :: .dead :: .dead :: .dead :: []), bx ++ [[I op, I n, .dat K], [I op2, I n2, .dat K2], [I m1], [I m2]], bx.length, none, false⟩)
  | [], i, b, hs => by
    rw [List.any_nil, Bool.or_false]
    exact ev_step cfg (e9c hX (by rw [rowsOf_len]; exact drop_nil hs))
  | x :: xs, i, b, hs => by
    obtain ⟨hget, hr, hlt⟩ := drop_cons hs
    have hne : varsT a ≠ [] := by intro e; rw [e] at hlt; simp at hlt
    have ih := loop15 m hz hX hA xs (i + 1) (b || (x == m)) hr
    obtain ⟨e1, e2⟩ := hA hne
    rw [e1, e2] at ih ⊢
    have hx : (varsT a)[i] = x := by rw [List.getElem?_eq_getElem hlt] at hget; exact Option.some.inj hget
    have hg := rows_get hlt
    rw [hx] at hg
    rw [List.any_cons, ← Bool.or_assoc]
    exact ev_step cfg ((r9c hg (by rw [rowsOf_len]; exact hlt) (by rw [rowsOf_len]; omega)).trans ih)

theorem any_has (a : Trm) (m : Int) : (varsT a).any (· == m) = hasT m a := by
  rw [Bool.eq_iff_iff, List.any_eq_true, ← mem_vars]
  constructor
  · rintro ⟨x, hx, e⟩
    have : x = m := by simpa using e
    subst this; exact hx
  · intro h
    exact ⟨m, h, by simp⟩

theorem loop11 (h : IsT a op n K) (hz : ((varsT a).length : Int) ≤ 100000) (hX : Lst (rowsOf (varsT a)) (XI (varsT a)) A) (hA : varsT a ≠ [] → XI (varsT a) = .own true 1 (rowsOf (varsT a)) ∧ A = .alias (.tmp 5)) : ∀ (k : Nat) (m : Int), 0 ≤ m → m + k = 4 →
    ev cfg (.loop 9 11 ⟨(.dead :: .dead :: .ptr bx.length 0 :: .ptr (bx.length + 1) 0 :: .dead :: XI (varsT a) :: .dead :: .dead :: I m :: .dead :: .dead :: .dead :: .dead :: .dead :: .dead :: .dead :: .dead :: .dead :: .dead :: .dead :: .dead :: .dead :: .dead :: .dead :: .dead :: .dead :: .dead :: .dead :: .dead :: .dead :: .dead :: .dead :: .dead :: .dead :: .dead :: .dead :: .dead :: .dead :: .dead :: .dead :: .dead :: .dead :: .dead :: .dead :: .dead :: .dead :: .dead :: .dead :: .dead :: .dead :: .dead :: .dead :: .dead :: .dead :: .dead :: .dead :: .dead :: .dead :: .dead :: .dead :: .dead :: .dead :: .dead :: .dead :: .dead :: .dead :: .dead :: .dead :: .dead :: .dead :: .dead :: .dead :: .dead :: .dead :: .dead :: .dead :: .dead :: .dead :: .dead :: .dead :: .dead :: .dead :: .dead :: .dead :: .dead :: .dead :: .dead :: .dead :: .dead :: []), bx ++ [[I op, I n, .dat K], [I op2, I n2, .dat K2], [I m1], [I m2]], bx.length, none, false⟩) =
      some (.loop (.exit 2) ⟨(.dead :: .dead :: .ptr bx.length 0 :: .ptr (bx.length + 1) 0 :: .dead :: .dead :: .dead :: .dead :: .dead :: .dead :: .dead :: .dead :: .dead :: .dead :: .dead :: .dead :: .dead :: .dead :: .dead :: .dead :: .dead :: .dead :: .dead :: .dead :: .dead :: .dead :: .dead :: .dead :: .dead :: .dead :: .dead :: .dead :: .dead :: .dead :: .dead :: .dead :: .dead :: .dead :: .dead :: .dead :: .dead :: .dead :: .dead :: .dead :: .dead :: .dead :: .dead :: .dead :: .dead :: .dead :: .dead :: .dead :: .dead :: .dead :: .dead :: .dead :: .dead :: .dead :: .dead :: .dead :: .dead :: .dead :: .dead :: .dead :: .dead :: .dead :: .dead :: .dead :: .dead :: .dead :: .dead :: .dead :: .dead :: .dead :: .dead :: .dead :: .dead :: .dead :: .dead :: .dead :: .dead :: .dead :: .dead :: .dead :: .dead :: .dead :: .dead :: .dead :: .dead :: []), bx ++ [[I op, I n, .dat K], [I op2, I n2, .dat K2], [I m1], [I m2]], bx.length, none, false⟩)
  | 0, m, h0, hm => ev_step cfg (e9b hX (decide_eq_false (by omega)))
  | k + 1, m, h0, hm => by
    have h15 := loop15 (op := op) (n := n) (op2 := op2) (n2 := n2) (K := K) (K2 := K2) (m1 := m1) (m2 := m2) (bx := bx) m hz hX hA (varsT a) 0 false rfl
    rw [Bool.false_or, any_has] at h15
    exact ev_step cfg ((r9b (b := hasT m a) hX (isT_one h) (decide_eq_true (by omega)) (wrap_lo (by omega) (by omega)) h15 (has_ev m a h)).trans (loop11 h hz hX hA k (m + 1) (by omega) (by omega)))
end

theorem looks_room (b : Trm) {op n : Int} {K : D} (h : IsT b op n K) (bx pre : List Box) :
    ev cfg (.call 19 [.agg [I op, I n, .dat K], .ptr (bx.length + pre.length) 0, I 1] (bx ++ (pre ++ [[I 1000]]))) = some (.ret (B (bigT 1000 1 b).1) (some ⟨bx ++ (pre ++ [[I (bigT 1000 1 b).2]]), bx.length + pre.length, false⟩)) := by
  have hget : (bx ++ (pre ++ [[I 1000]]))[bx.length + pre.length]? = some [I 1000] := by
    rw [List.getElem?_append_right (by omega), List.getElem?_append_right (by omega)]
    have : bx.length + pre.length - bx.length - pre.length = 0 := by omega
    rw [this]; rfl
  have := large_ev b (m := 1000) (d := 1) (l := bx.length + pre.length) (bx := bx ++ (pre ++ [[I 1000]])) h (by omega) (by omega) (by decide) (by decide) hget
  rw [app_set, app_set0] at this
  exact this

theorem termLooks_ev (a b : Trm) {op n op2 n2 : Int} {K K2 : D} (h : IsT a op n K) (h2 : IsT b op2 n2 K2) (bx : List Box) : ev cfg (.call 9 [.agg [I op, I n, .dat K], .agg [I op2, I n2, .dat K2]] bx) = some (.ret (B true) none) := by
  have hL := looks_room a h bx [[I op, I n, .dat K], [I op2, I n2, .dat K2]]
  have hL2 := looks_room b h2 bx [[I op, I n, .dat K], [I op2, I n2, .dat K2], [I (bigT 1000 1 a).2]]
  cases hbig : ((bigT 1000 1 a).1 || (bigT 1000 1 b).1) with
  | true => exact ev_step cfg (f9_big (isT_one h) (isT_one h2) hL (fun _ => hL2) hbig less_ev)
  | false =>
    rw [Bool.or_eq_false_iff] at hbig
    have hz := room_size hbig.1
    rw [hbig.1] at hL
    rw [hbig.2] at hL2
    have hvl := vars_len a
    obtain ⟨A, hX, hA⟩ := lst_of (varsT a)
    have h5 := loop5 (op2 := op2) (n2 := n2) (K2 := K2) (m1 := (bigT 1000 1 a).2) (m2 := (bigT 1000 1 b).2) (bx := bx) h (by omega) hX hA (varsT a).length 0 (by omega)
    have h11 := loop11 (op2 := op2) (n2 := n2) (K2 := K2) (m1 := (bigT 1000 1 a).2) (m2 := (bigT 1000 1 b).2) (bx := bx) h (by omega) hX hA 4 0 (by omega) (by omega)
    exact ev_step cfg (f9 hX (isT_one h) (isT_one h2) hL hL2 (vars_ev a h (by omega)) less_ev h5 h11 (issame_ev a h h2) (plain_same_ev a h h2) (size_ev a h (by omega)) (rsize_ev a h (by omega)))
end Go.Proofs.YtgppmcpbphgnnaaDoor
