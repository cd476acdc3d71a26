/- Which variables are in a term: what Vars, Has, Same and Size answer. No condition. -/
import Derived.Test.YtgppmcpbphgnnaaDoorL1
import Derived.Test.YtgppmcpbphgnnaaDoorT19
set_option linter.unusedSimpArgs false
set_option linter.unusedVariables false
set_option linter.unusedSectionVars false
namespace Go.Proofs.YtgppmcpbphgnnaaDoor
open Go Go.Vx
set_option maxRecDepth 10000

/-! ### slices.Compact, in plain words -/
theorem mem_compact (zs : List Int) (x : Int) : x ∈ Lib.compact zs ↔ x ∈ zs := by
  have hget : ∀ i, i < zs.length → zs.toArray[i]! = zs[i]! := fun i h => by simp [h]
  simp only [Lib.compact, Lib.compactUpTo, List.mem_map, List.mem_filter, List.mem_range]
  constructor
  · rintro ⟨i, ⟨hi, _⟩, rfl⟩
    rw [hget i hi, getElem!_pos zs i hi]
    exact List.getElem_mem hi
  · intro hx
    obtain ⟨i, hi, hix⟩ := List.mem_iff_getElem.1 hx
    have key : ∀ i : Nat, ∀ h : i < zs.length, zs[i] = x → ∃ j, (j < zs.length ∧ Lib.keeps zs.toArray j = true) ∧ zs.toArray[j]! = x := by
      intro i
      induction i with
      | zero =>
        intro h e
        exact ⟨0, ⟨h, by simp [Lib.keeps]⟩, by rw [hget 0 h, getElem!_pos zs 0 h, e]⟩
      | succ i ih =>
        intro h e
        by_cases hk : Lib.keeps zs.toArray (i + 1) = true
        · exact ⟨i + 1, ⟨h, hk⟩, by rw [hget _ h, getElem!_pos zs _ h, e]⟩
        · have hlt : i < zs.length := by omega
          refine ih hlt ?_
          simp only [Lib.keeps, decide_eq_true_eq, not_or, Nat.add_sub_cancel] at hk
          have h2 := hk.2
          rw [hget _ h, hget _ hlt, getElem!_pos zs _ h, getElem!_pos zs _ hlt] at h2
          rw [← e]
          exact (Decidable.not_not.1 h2).symm
    exact key i hi hix

theorem compact_sorted {zs : List Int} (h : zs.Pairwise (· ≤ ·)) : (Lib.compact zs).Pairwise (· < ·) := by
  have hget : ∀ i, i < zs.length → zs.toArray[i]! = zs[i]! := fun i h => by simp [h]
  simp only [Lib.compact, Lib.compactUpTo]
  rw [List.pairwise_map]
  have hp : ((List.range zs.length).filter (Lib.keeps zs.toArray)).Pairwise (· < ·) := List.Pairwise.filter _ List.pairwise_lt_range
  refine hp.imp_of_mem fun {i j} hi hj hij => ?_
  simp only [List.mem_filter, List.mem_range] at hi hj
  have h1 := hi.1
  have h2 := hj.1
  have hk := hj.2
  simp only [Lib.keeps, decide_eq_true_eq] at hk
  have hk' : zs.toArray[j]! ≠ zs.toArray[j - 1]! := by rcases hk with e | e; omega; exact e
  rw [hget _ h1, hget _ h2, getElem!_pos zs _ h1, getElem!_pos zs _ h2]
  have h3 : j - 1 < zs.length := by omega
  rw [hget _ h2, hget _ h3, getElem!_pos zs _ h2, getElem!_pos zs _ h3] at hk'
  have le : ∀ a b (ha : a < zs.length) (hb : b < zs.length), a < b → zs[a] ≤ zs[b] := fun a b ha hb hab => (List.pairwise_iff_getElem.1 h) a b ha hb hab
  have l2 := le (j - 1) j h3 h2 (by omega)
  by_cases e : i = j - 1
  · subst e; omega
  · have := le i (j - 1) h1 h3 (by omega); omega

theorem sortI_sorted (zs : List Int) : (sortI zs).Pairwise (· ≤ ·) := by
  have := List.pairwise_mergeSort (le := fun x y : Int => decide (x ≤ y)) (fun a b c h1 h2 => by simp only [decide_eq_true_eq] at *; omega) (fun a b => by simp only [Bool.or_eq_true, decide_eq_true_eq]; omega) zs
  exact this.imp fun h => by simpa using h
theorem mem_sortI (zs : List Int) (x : Int) : x ∈ sortI zs ↔ x ∈ zs := List.mem_mergeSort ..
theorem compact_ne {zs : List Int} (h : zs ≠ []) : Lib.compact zs ≠ [] := by
  intro e
  cases zs with
  | nil => exact h rfl
  | cons z zs =>
    have := (mem_compact (z :: zs) z).2 (List.mem_cons_self ..)
    rw [e] at this; cases this

/-! ### Vars, in plain words -/
def varsT : Trm → List Int
  | .mk op n ks => Lib.compact (sortI ((if op = 2 then [n] else []) ++ go ks))
where
  go : List Trm → List Int
  | [] => []
  | b :: bs => varsT b ++ go bs
def hasT (m : Int) : Trm → Bool
  | .mk op n ks => ((op == 2) && (n == m)) || go ks
where
  go : List Trm → Bool
  | [] => false
  | b :: bs => hasT m b || go bs

theorem mem_vars (m : Int) : ∀ b : Trm, m ∈ varsT b ↔ hasT m b = true
  | .mk op n ks => by
    rw [varsT, hasT, mem_compact, mem_sortI, List.mem_append, go m ks, Bool.or_eq_true]
    refine or_congr ?_ Iff.rfl
    by_cases h : op = 2
    · rw [if_pos h, h]
      simp only [List.mem_singleton, beq_self_eq_true, Bool.true_and, beq_iff_eq]
      exact eq_comm
    · rw [if_neg h]
      simp [h]
where
  go (m : Int) : ∀ bs : List Trm, m ∈ varsT.go bs ↔ hasT.go m bs = true
  | [] => by rw [varsT.go, hasT.go]; simp
  | b :: bs => by rw [varsT.go, hasT.go, List.mem_append, mem_vars m b, go m bs, Bool.or_eq_true]
theorem vars_sorted (b : Trm) : (varsT b).Pairwise (· < ·) := by
  cases b
  rw [varsT]
  exact compact_sorted (sortI_sorted _)
theorem vars_len : ∀ b : Trm, ((varsT b).length : Int) ≤ sizeT b
  | .mk op n ks => by
    rw [varsT, sizeT]
    have h1 := compact_len (sortI ((if op = 2 then [n] else []) ++ varsT.go ks))
    rw [sortI_len, List.length_append] at h1
    have h2 := go ks
    have h3 : (if op = 2 then [n] else ([] : List Int)).length ≤ 1 := by split <;> simp
    omega
where
  go : ∀ bs : List Trm, ((varsT.go bs).length : Int) ≤ sizeT.go bs
  | [] => by rw [varsT.go, sizeT.go]; exact Int.le_refl 0
  | b :: bs => by
    rw [varsT.go, sizeT.go, List.length_append]
    have := vars_len b
    have := go bs
    omega

/-! ### evals -/
theorem vars_ev : ∀ (b : Trm) {op n : Int} {K : D}, IsT b op n K → sizeT b ≤ 10000 → ∀ bx : List Box, ev cfg (.call 28 [.agg [I op, I n, .dat K]] bx) = some (.ret (XI (varsT b)) none)
  | .mk _ _ ks, op, n, K, h, hz, bx => by
    rw [IsT] at h
    obtain ⟨rfl, rfl, _, _, rows, hK, hks, hmax⟩ := h
    rw [sizeT] at hz
    have hl := vars_len.go ks
    have h3 : (if op = 2 then [n] else ([] : List Int)).length ≤ 1 := by split <;> simp
    have hb : (op == 2) = decide (op = 2) := rfl
    rw [varsT]
    have hlen : ((if op = 2 then [n] else ([] : List Int)) ++ varsT.go ks).length < 4611686018427387904 := by rw [List.length_append]; omega
    have hloop := fun (c : Box) (hc : c.all (cellLt (bx.length + 1)) = true) => loop ks (i := 0) (zs := if op = 2 then [n] else []) (c := c) hK rfl hks (by rw [isTs_len hks]; exact hmax) (by omega) (by omega) bx hc
    have e : (if decide (op = 2) = true then [n] else ([] : List Int)) = if op = 2 then [n] else [] := by by_cases h : op = 2 <;> simp [h]
    rw [← e] at hloop hlen ⊢
    generalize hzs : (if decide (op = 2) = true then [n] else ([] : List Int)) ++ varsT.go ks = zs at hloop hlen ⊢
    cases zs with
    | nil =>
      have := ev_step cfg (f28 (bx := bx) (b := decide (op = 2)) (zs := []) (n := n) hK hb (eq_true hlen) hloop)
      have e2 : XI (Lib.compact (sortI [])) = .dat .nil := by
        have : sortI [] = [] := by simp [sortI]
        rw [this]; rfl
      rw [e2]
      exact this
    | cons z zs =>
      have := ev_step cfg (f28 (bx := bx) (b := decide (op = 2)) (zs := z :: zs) (n := n) hK hb (eq_true hlen) hloop)
      have hne : Lib.compact (sortI (z :: zs)) ≠ [] := compact_ne (fun e => by have := congrArg List.length e; rw [sortI_len] at this; simp at this)
      have e2 : XI (Lib.compact (sortI (z :: zs))) = .own true 1 (rowsOf (Lib.compact (sortI (z :: zs)))) := by
        unfold XI
        cases hc : Lib.compact (sortI (z :: zs)) with
        | nil => exact absurd hc hne
        | cons => rfl
      rw [e2]
      exact this
where
  loop : ∀ (bs : List Trm) {rows rs : List (List D)} {K : D} {i : Nat} {zs : List Int} {c : Box}, IsS 3 rows K → rows.drop i = rs → IsT.IsTs bs rs → rows.length < 9223372036854775808 → (zs.length : Int) + sizeT.go bs ≤ 10001 → sizeT.go bs ≤ 9999 → ∀ bx : List Box, c.all (cellLt (bx.length + 1)) = true →
    ev cfg (.loop 28 5 ⟨(.dead :: .dead :: .dead :: XI zs :: .dead :: .dead :: .dead :: .dead :: .dead :: .dead :: .dead :: .dead :: .dead :: .dead :: .dead :: .dat K :: I rows.length :: I i :: .dead :: .dead :: .dead :: .dead :: .dead :: .dead :: .dead :: .dead :: .dead :: .dead :: .dead :: .dead :: []), bx ++ [c], bx.length, none, false⟩) = some (.loop (.exit 0) ⟨(.dead :: .dead :: .dead :: XI (zs ++ varsT.go bs) :: .dead :: .dead :: .dead :: .dead :: .dead :: .dead :: .dead :: .dead :: .dead :: .dead :: .dead :: .dead :: .dead :: .dead :: .dead :: .dead :: .dead :: .dead :: .dead :: .dead :: .dead :: .dead :: .dead :: .dead :: .dead :: .dead :: []), bx ++ [c], bx.length, none, false⟩)
  | [], rows, rs, K, i, zs, c, hK, hr, hbs, hmax, hz, hz2, bx, hc => by
    rw [IsT.IsTs] at hbs
    subst hbs
    rw [varsT.go, List.append_nil]
    exact ev_step cfg (e28 hc (drop_nil hr))
  | b :: bs, rows, rs, K, i, zs, c, hK, hr, hbs, hmax, hz, hz2, bx, hc => by
    rw [IsT.IsTs] at hbs
    obtain ⟨op, n, K', rest, rfl, hB, hrest⟩ := hbs
    obtain ⟨hget, hr', hlt⟩ := drop_cons hr
    rw [sizeT.go] at hz hz2
    have p1 := sizeT_pos b
    have p2 := sizeT_pos.go bs
    have p3 := vars_len b
    have h1 := r28 (zs := zs) (ys := varsT b) hK hc hget hlt hmax (isT_one hB) (by omega) (vars_ev b hB (by omega))
    have h2 := loop bs (i := i + 1) (zs := zs ++ varsT b) hK hr' hrest hmax (by rw [List.length_append]; omega) (by omega) bx hc
    rw [varsT.go, ← List.append_assoc]
    exact ev_step cfg (h1.trans h2)

theorem has_ev (m : Int) : ∀ (b : Trm) {op n : Int} {K : D}, IsT b op n K → ∀ bx : List Box, ev cfg (.call 29 [.agg [I op, I n, .dat K], I m] bx) = some (.ret (B (hasT m b)) none)
  | .mk _ _ ks, op, n, K, h, bx => by
    rw [IsT] at h
    obtain ⟨rfl, rfl, _, _, rows, hK, hks, hmax⟩ := h
    rw [hasT]
    cases hc : ((op == 2) && (n == m)) with
    | true => exact ev_step cfg (f29_yes hK hc)
    | false =>
      rw [Bool.false_or]
      exact ev_step cfg (f29 hK hc fun c hcc => loop ks (i := 0) hK rfl hks (by rw [isTs_len hks]; exact hmax) bx hcc)
where
  loop : ∀ (bs : List Trm) {rows rs : List (List D)} {K : D} {i : Nat} {c : Box}, IsS 3 rows K → rows.drop i = rs → IsT.IsTs bs rs → rows.length < 9223372036854775808 → ∀ bx : List Box, c.all (cellLt (bx.length + 1)) = true →
    ev cfg (.loop 29 4 ⟨(.dead :: I m :: .dead :: .dead :: .dead :: .dead :: .dead :: .dead :: .dead :: .dead :: .dead :: .dead :: .dead :: .dead :: .dead :: .dead :: .dead :: .dat K :: I rows.length :: I i :: .dead :: .dead :: .dead :: .dead :: .dead :: .dead :: .dead :: []), bx ++ [c], bx.length, none, false⟩) =
      some (if hasT.go m bs = true then .loop .ret ⟨(.dead :: .dead :: .dead :: .dead :: B true :: .dead :: .dead :: .dead :: .dead :: .dead :: .dead :: .dead :: .dead :: .dead :: .dead :: .dead :: .dead :: .dead :: .dead :: .dead :: .dead :: .dead :: .dead :: .dead :: .dead :: .dead :: .dead :: []), bx ++ [c], bx.length, none, false⟩ else .loop (.exit 0) ⟨(.dead :: .dead :: .dead :: .dead :: .dead :: .dead :: .dead :: .dead :: .dead :: .dead :: .dead :: .dead :: .dead :: .dead :: .dead :: .dead :: .dead :: .dead :: .dead :: .dead :: .dead :: .dead :: .dead :: .dead :: .dead :: .dead :: .dead :: []), bx ++ [c], bx.length, none, false⟩)
  | [], rows, rs, K, i, c, hK, hr, hbs, hmax, bx, hc => by
    rw [IsT.IsTs] at hbs
    subst hbs
    rw [hasT.go, if_neg (by decide)]
    exact ev_step cfg (e29 hc (drop_nil hr))
  | b :: bs, rows, rs, K, i, c, hK, hr, hbs, hmax, bx, hc => by
    rw [IsT.IsTs] at hbs
    obtain ⟨op, n, K', rest, rfl, hB, hrest⟩ := hbs
    obtain ⟨hget, hr', hlt⟩ := drop_cons hr
    have h1 := r29 (m := m) (bx := bx) hK hc hget hlt hmax (isT_one hB) (has_ev m b hB)
    rw [hasT.go]
    cases hb : hasT m b with
    | true =>
      rw [hb, if_pos rfl] at h1
      rw [Bool.true_or, if_pos rfl]
      exact ev_step cfg h1
    | false =>
      rw [hb, if_neg (by decide)] at h1
      rw [Bool.false_or]
      exact ev_step cfg (h1.trans (loop bs (i := i + 1) hK hr' hrest hmax bx hc))

def sameT : Trm → Trm → Bool
  | .mk o n ks, .mk o2 n2 ks2 => ((o == o2) && (n == n2)) && ((ks.length == ks2.length) && go ks ks2)
where
  go : List Trm → List Trm → Bool
  | a :: xs, b :: ys => sameT a b && go xs ys
  | [], _ => true
  | _ :: _, [] => true

theorem len_bne (a b : Nat) : (((a : Int)) != (b : Int)) = !(a == b) := by
  by_cases h : a = b
  · simp [h]
  · have h2 : ¬ (a : Int) = (b : Int) := by omega
    have e1 : ((a : Int) == (b : Int)) = false := beq_eq_false_iff_ne.2 h2
    have e2 : (a == b) = false := beq_eq_false_iff_ne.2 h
    show (!((a : Int) == (b : Int))) = !(a == b)
    rw [e1, e2]

theorem issame_ev : ∀ (t : Trm) {u : Trm} {o n o2 n2 : Int} {K K2 : D}, IsT t o n K → IsT u o2 n2 K2 → ∀ bx : List Box, ev cfg (.call 30 [.agg [I o, I n, .dat K], .agg [I o2, I n2, .dat K2]] bx) = some (.ret (B (sameT t u)) none)
  | .mk _ _ ks, .mk _ _ ks2, o, n, o2, n2, K, K2, h, h2, bx => by
    rw [IsT] at h h2
    obtain ⟨rfl, rfl, _, _, rows, hK, hks, hmax⟩ := h
    obtain ⟨rfl, rfl, _, _, rows2, hK2, hks2, _⟩ := h2
    have l1 := isTs_len hks
    have l2 := isTs_len hks2
    rw [sameT]
    cases hc : ((o == o2) && (n == n2)) with
    | false => rw [Bool.false_and]; exact ev_step cfg (f30_no hK hK2 hc)
    | true =>
      rw [Bool.true_and]
      rw [Bool.and_eq_true] at hc
      refine ev_step cfg (f30 hK hK2 hc.1 hc.2 fun bx => ?_)
      cases hl : (ks.length == ks2.length) with
      | false =>
        rw [Bool.false_and]
        exact ev_step cfg (f56_no hK hK2 (by rw [l1, l2, len_bne, hl]; rfl))
      | true =>
        rw [Bool.true_and]
        refine ev_step cfg (f56 hK hK2 (by rw [l1, l2, len_bne, hl]; rfl) ?_)
        exact loop ks (i := 0) hK hK2 rfl rfl hks hks2 (by rw [l1]; exact hmax) (by rw [l1, l2]; simpa using hl) bx
where
  loop : ∀ (bs : List Trm) {bs2 : List Trm} {rows rs rows2 rs2 : List (List D)} {K K2 : D} {i : Nat}, IsS 3 rows K → IsS 3 rows2 K2 → rows.drop i = rs → rows2.drop i = rs2 → IsT.IsTs bs rs → IsT.IsTs bs2 rs2 → rows.length < 9223372036854775808 → rows.length = rows2.length → ∀ bx : List Box,
    ev cfg (.loop 56 4 ⟨(.dead :: .dat K2 :: .clo 30 [] :: .dead :: .dead :: .dead :: .dead :: .dead :: .dead :: .dead :: .dead :: .dead :: .dead :: .dead :: .dead :: .dat K :: I rows.length :: I i :: .dead :: .dead :: .dead :: .dead :: .dead :: .dead :: .dead :: .dead :: .dead :: .dead :: .dead :: .dead :: .dead :: .dead :: []), bx, bx.length, none, false⟩) =
      some (if sameT.go bs bs2 = true then .loop (.exit 0) ⟨(.dead :: .dead :: .dead :: .dead :: .dead :: .dead :: .dead :: .dead :: .dead :: .dead :: .dead :: .dead :: .dead :: .dead :: .dead :: .dead :: .dead :: .dead :: .dead :: .dead :: .dead :: .dead :: .dead :: .dead :: .dead :: .dead :: .dead :: .dead :: .dead :: .dead :: .dead :: .dead :: []), bx, bx.length, none, false⟩ else .loop .ret ⟨(.dead :: .dead :: .dead :: .dead :: .dead :: .dead :: B false :: .dead :: .dead :: .dead :: .dead :: .dead :: .dead :: .dead :: .dead :: .dead :: .dead :: .dead :: .dead :: .dead :: .dead :: .dead :: .dead :: .dead :: .dead :: .dead :: .dead :: .dead :: .dead :: .dead :: .dead :: .dead :: []), bx, bx.length, none, false⟩)
  | [], bs2, rows, rs, rows2, rs2, K, K2, i, hK, hK2, hr, hr2, hbs, hbs2, hmax, heq, bx => by
    rw [IsT.IsTs] at hbs
    subst hbs
    rw [sameT.go, if_pos rfl]
    exact ev_step cfg (e56 (drop_nil hr))
  | b :: bs, bs2, rows, rs, rows2, rs2, K, K2, i, hK, hK2, hr, hr2, hbs, hbs2, hmax, heq, bx => by
    rw [IsT.IsTs] at hbs
    obtain ⟨o, n, K', rest, rfl, hB, hrest⟩ := hbs
    obtain ⟨hget, hr', hlt⟩ := drop_cons hr
    cases bs2 with
    | nil =>
      rw [IsT.IsTs] at hbs2
      subst hbs2
      have := drop_nil hr2
      omega
    | cons c cs =>
      rw [IsT.IsTs] at hbs2
      obtain ⟨o2, n2, K2', rest2, rfl, hB2, hrest2⟩ := hbs2
      obtain ⟨hget2, hr2', hlt2⟩ := drop_cons hr2
      have h1 := r56 (bx := bx) hK hK2 hget hget2 hlt hlt2 hmax (isT_one hB) (isT_one hB2) (issame_ev b hB hB2)
      rw [sameT.go]
      cases hs : sameT b c with
      | true =>
        rw [hs, if_pos rfl] at h1
        rw [Bool.true_and]
        exact ev_step cfg (h1.trans (loop bs (i := i + 1) hK hK2 hr' hr2' hrest hrest2 hmax heq bx))
      | false =>
        rw [hs, if_neg (by decide)] at h1
        rw [Bool.false_and, if_neg (by decide)]
        exact ev_step cfg h1

theorem plain_same_ev : ∀ (t : Trm) {u : Trm} {o n o2 n2 : Int} {K K2 : D}, IsT t o n K → IsT u o2 n2 K2 → ∀ bx : List Box, ev cfg (.call 27 [.agg [I o, I n, .dat K], .agg [I o2, I n2, .dat K2]] bx) = some (.ret (B (sameT t u)) none)
  | .mk _ _ ks, .mk _ _ ks2, o, n, o2, n2, K, K2, h, h2, bx => by
    rw [IsT] at h h2
    obtain ⟨rfl, rfl, _, _, rows, hK, hks, hmax⟩ := h
    obtain ⟨rfl, rfl, _, _, rows2, hK2, hks2, _⟩ := h2
    have l1 := isTs_len hks
    have l2 := isTs_len hks2
    rw [sameT]
    have hbn : ∀ a b : Int, (a != b) = !(a == b) := fun _ _ => rfl
    cases hc : (((o == o2) && (n == n2)) && (ks.length == ks2.length)) with
    | false =>
      have : (((o == o2) && (n == n2)) && ((ks.length == ks2.length) && sameT.go ks ks2)) = false := by rw [← Bool.and_assoc, hc, Bool.false_and]
      rw [this]
      refine ev_step cfg (f27_no hK hK2 ?_)
      rw [hbn, hbn, l1, l2, len_bne, ← Bool.not_and, ← Bool.not_and, hc]; rfl
    | true =>
      have : (((o == o2) && (n == n2)) && ((ks.length == ks2.length) && sameT.go ks ks2)) = sameT.go ks ks2 := by rw [← Bool.and_assoc, hc, Bool.true_and]
      rw [this]
      rw [Bool.and_eq_true, Bool.and_eq_true] at hc
      refine ev_step cfg (f27 hK hK2 (by rw [hbn, hc.1.1]; rfl) (by rw [hbn, hc.1.2]; rfl) (by rw [l1, l2, len_bne, hc.2]; rfl) ?_)
      exact loop ks (i := 0) hK hK2 rfl rfl hks hks2 (by rw [l1]; exact hmax) (by rw [l1, l2]; simpa using hc.2) bx
where
  loop : ∀ (bs : List Trm) {bs2 : List Trm} {rows rs rows2 rs2 : List (List D)} {K K2 : D} {i : Nat} {a1 m1 a2 m2 : Int}, IsS 3 rows K → IsS 3 rows2 K2 → rows.drop i = rs → rows2.drop i = rs2 → IsT.IsTs bs rs → IsT.IsTs bs2 rs2 → rows.length < 9223372036854775808 → rows.length = rows2.length → ∀ bx : List Box,
    ev cfg (.loop 27 4 ⟨(.dead :: .dead :: .ptr bx.length 0 :: .ptr (bx.length + 1) 0 :: .dead :: .dead :: .dead :: .dead :: .dead :: .dead :: .dead :: .dead :: .dead :: .dead :: .dead :: .dead :: .dead :: .dead :: .dead :: .dead :: .dead :: .dead :: .dead :: .dead :: .dead :: .dead :: .dead :: .dead :: .dead :: I rows.length :: I i :: .dead :: .dead :: .dead :: .dead :: .dead :: .dead :: .dead :: .dead :: .dead :: .dead :: .dead :: .dead :: .dead :: .dead :: .dead :: []), bx ++ [[I a1, I m1, .dat K], [I a2, I m2, .dat K2]], bx.length, none, false⟩) =
      some (if sameT.go bs bs2 = true then .loop (.exit 0) ⟨(.dead :: .dead :: .dead :: .dead :: .dead :: .dead :: .dead :: .dead :: .dead :: .dead :: .dead :: .dead :: .dead :: .dead :: .dead :: .dead :: .dead :: .dead :: .dead :: .dead :: .dead :: .dead :: .dead :: .dead :: .dead :: .dead :: .dead :: .dead :: .dead :: .dead :: .dead :: .dead :: .dead :: .dead :: .dead :: .dead :: .dead :: .dead :: .dead :: .dead :: .dead :: .dead :: .dead :: .dead :: .dead :: .dead :: []), bx ++ [[I a1, I m1, .dat K], [I a2, I m2, .dat K2]], bx.length, none, false⟩ else .loop .ret ⟨(.dead :: .dead :: .dead :: .dead :: B false :: .dead :: .dead :: .dead :: .dead :: .dead :: .dead :: .dead :: .dead :: .dead :: .dead :: .dead :: .dead :: .dead :: .dead :: .dead :: .dead :: .dead :: .dead :: .dead :: .dead :: .dead :: .dead :: .dead :: .dead :: .dead :: .dead :: .dead :: .dead :: .dead :: .dead :: .dead :: .dead :: .dead :: .dead :: .dead :: .dead :: .dead :: .dead :: .dead :: .dead :: .dead :: []), bx ++ [[I a1, I m1, .dat K], [I a2, I m2, .dat K2]], bx.length, none, false⟩)
  | [], bs2, rows, rs, rows2, rs2, K, K2, i, a1, m1, a2, m2, hK, hK2, hr, hr2, hbs, hbs2, hmax, heq, bx => by
    rw [IsT.IsTs] at hbs
    subst hbs
    rw [sameT.go, if_pos rfl]
    exact ev_step cfg (e27 (drop_nil hr))
  | b :: bs, bs2, rows, rs, rows2, rs2, K, K2, i, a1, m1, a2, m2, hK, hK2, hr, hr2, hbs, hbs2, hmax, heq, bx => by
    rw [IsT.IsTs] at hbs
    obtain ⟨o, n, K', rest, rfl, hB, hrest⟩ := hbs
    obtain ⟨hget, hr', hlt⟩ := drop_cons hr
    cases bs2 with
    | nil =>
      rw [IsT.IsTs] at hbs2
      subst hbs2
      have := drop_nil hr2
      omega
    | cons c cs =>
      rw [IsT.IsTs] at hbs2
      obtain ⟨o2, n2, K2', rest2, rfl, hB2, hrest2⟩ := hbs2
      obtain ⟨hget2, hr2', hlt2⟩ := drop_cons hr2
      have h1 := r27 (bx := bx) (a1 := a1) (m1 := m1) (a2 := a2) (m2 := m2) hK hK2 hget hget2 hlt hlt2 hmax (isT_one hB) (isT_one hB2) (plain_same_ev b hB hB2)
      rw [sameT.go]
      cases hs : sameT b c with
      | true =>
        rw [hs, if_pos rfl] at h1
        rw [Bool.true_and]
        exact ev_step cfg (h1.trans (loop bs (i := i + 1) hK hK2 hr' hr2' hrest hrest2 hmax heq bx))
      | false =>
        rw [hs, if_neg (by decide)] at h1
        rw [Bool.false_and, if_neg (by decide)]
        exact ev_step cfg h1

theorem rsize_ev : ∀ (b : Trm) {op n : Int} {K : D}, IsT b op n K → sizeT b ≤ 1000000 → ∀ bx : List Box, ev cfg (.call 32 [.agg [I op, I n, .dat K]] bx) = some (.ret (I (sizeT b)) none)
  | .mk _ _ ks, op, n, K, h, hz, bx => by
    rw [IsT] at h
    obtain ⟨rfl, rfl, _, _, rows, hK, hks, hmax⟩ := h
    rw [sizeT] at hz ⊢
    exact ev_step cfg (f32 hK fun c hc => loop ks (i := 0) hK rfl hks (by rw [isTs_len hks]; exact hmax) (by decide) hz bx hc)
where
  loop : ∀ (bs : List Trm) {rows rs : List (List D)} {K : D} {i : Nat} {m : Int} {c : Box}, IsS 3 rows K → rows.drop i = rs → IsT.IsTs bs rs → rows.length < 9223372036854775808 → 0 ≤ m → m + sizeT.go bs ≤ 1000000 → ∀ bx : List Box, c.all (cellLt (bx.length + 1)) = true →
    ev cfg (.loop 32 3 ⟨(.dead :: .dead :: .dead :: I m :: .dead :: .dead :: .dead :: .dat K :: I rows.length :: I i :: .dead :: .dead :: .dead :: .dead :: .dead :: .dead :: .dead :: .dead :: .dead :: []), bx ++ [c], bx.length, none, false⟩) = some (.loop (.exit 0) ⟨(.dead :: .dead :: .dead :: I (m + sizeT.go bs) :: .dead :: .dead :: .dead :: .dead :: .dead :: .dead :: .dead :: .dead :: .dead :: .dead :: .dead :: .dead :: .dead :: .dead :: .dead :: []), bx ++ [c], bx.length, none, false⟩)
  | [], rows, rs, K, i, m, c, hK, hr, hbs, hmax, h0, hz, bx, hc => by
    rw [IsT.IsTs] at hbs
    subst hbs
    rw [sizeT.go, Int.add_zero]
    exact ev_step cfg (e32 hc (drop_nil hr))
  | b :: bs, rows, rs, K, i, m, c, hK, hr, hbs, hmax, h0, hz, bx, hc => by
    rw [IsT.IsTs] at hbs
    obtain ⟨op, n, K', rest, rfl, hB, hrest⟩ := hbs
    obtain ⟨hget, hr', hlt⟩ := drop_cons hr
    rw [sizeT.go] at hz ⊢
    have p1 := sizeT_pos b
    have p2 := sizeT_pos.go bs
    have h1 := r32 (x := sizeT b) (m := m) hK hc hget hlt hmax (isT_one hB) (wrap_lo (by omega) (by omega)) (rsize_ev b hB (by omega))
    have h2 := loop bs (i := i + 1) (m := m + sizeT b) hK hr' hrest hmax (by omega) (by omega) bx hc
    rw [Int.add_assoc] at h2
    exact ev_step cfg (h1.trans h2)
end Go.Proofs.YtgppmcpbphgnnaaDoor
