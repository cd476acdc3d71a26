/- An office step by step, in plain words. No condition. -/
import Derived.Test.YtgppmcpbphgnnaaP7
set_option linter.unusedSimpArgs false
set_option linter.unusedVariables false
set_option linter.unusedSectionVars false
namespace Go.Proofs.Ytgppmcpbphgnnaa
open Go Go.Vx
set_option maxRecDepth 10000

def nxt (l : Bxs) (s : Int × Int × Int) : Bxs := (step l s.1 s.2.1 s.2.2).getD l

theorem get_put (k k' : Int) (n : N4) : ∀ l : Bxs, get (put4 l k n) k' = if k' = k then some n else get l k'
  | [] => by
    simp only [put4, get]
    by_cases h : k' = k
    · rw [if_pos h.symm, if_pos h]
    · rw [if_neg (Ne.symm h), if_neg h]
  | p :: ps => by
    simp only [put4]
    by_cases hp : p.1 = k
    · rw [if_pos hp]
      simp only [get]
      by_cases h : k' = k
      · rw [if_pos h.symm, if_pos h]
      · rw [if_neg (Ne.symm h), if_neg h, if_neg (by rw [hp]; exact Ne.symm h)]
    · rw [if_neg hp]
      simp only [get]
      rw [get_put k k' n ps]
      by_cases h : p.1 = k'
      · rw [if_pos h, if_pos h, if_neg (by rw [← h]; exact hp)]
      · rw [if_neg h, if_neg h]
theorem get_del (k k' : Int) : ∀ l : Bxs, (l.map (·.1)).Nodup → get (del l k) k' = if k' = k then none else get l k'
  | [], _ => by simp [del, get]
  | p :: ps, hn => by
    simp only [List.map_cons, List.nodup_cons] at hn
    simp only [del]
    by_cases hp : p.1 = k
    · rw [if_pos hp]
      by_cases h : k' = k
      · rw [if_pos h]
        refine get_none.2 fun q hq e => hn.1 ?_
        rw [hp, ← h, ← e]
        exact List.mem_map.2 ⟨q, hq, rfl⟩
      · rw [if_neg h]
        simp only [get]
        rw [if_neg (by rw [hp]; exact Ne.symm h)]
    · rw [if_neg hp]
      simp only [get]
      rw [get_del k k' ps hn.2]
      by_cases h : p.1 = k'
      · rw [if_pos h, if_pos h, if_neg (by rw [← h]; exact hp)]
      · rw [if_neg h, if_neg h]

/-- what a step makes of a key's box -/
def nxtG (full : Bool) (g : Option N4) (w k m : Int) : Option N4 :=
  if w = 0 ∨ w = 1 then (match g with
    | some n => some n
    | none => if (decide (k < 0) || decide (k > 999)) = true ∨ full = true then none else some (0, 0, 0, 0))
  else if w = 2 then none
  else if w = 3 ∨ w = 4 then (match g with
    | none => none
    | some n => if (decide (m < 0) || decide (m > 3)) = true then some n else if decide (nat4 n m > 2) = true then some n else some (set4' n m (IntKind.wrap .i64 (nat4 n m + 1))))
  else if w = 5 then (match g with
    | none => none
    | some n => if (decide (m < 0) || decide (m > 3)) = true then some n else if (nat4 n m == 0) = true then some n else some (set4' n m (IntKind.wrap .i64 (nat4 n m - 1))))
  else g

theorem get_nxt {l : Bxs} (hg : Good l) (w k m k' : Int) : get (nxt l (w, k, m)) k' = if k' = k then nxtG (decide ((l.length : Int) > 7)) (get l k) w k m else get l k' := by
  have hsame : ∀ x : Option N4, x = get l k → get l k' = if k' = k then x else get l k' := by
    rintro _ rfl
    split
    · rename_i e; rw [e]
    · rfl
  unfold nxt step nxtG
  simp only
  by_cases h1 : w = 0 ∨ w = 1
  · rw [if_pos h1, if_pos h1]
    unfold openW
    cases hk : get l k with
    | some n =>
      split
      · exact hsame _ hk.symm
      · exact hsame _ hk.symm
    | none =>
      simp only [Option.isSome_none, Bool.false_eq_true, if_false]
      by_cases c1 : (decide (k < 0) || decide (k > 999)) = true
      · rw [if_pos c1, if_pos (show (decide (k < 0) || decide (k > 999)) = true ∨ decide ((l.length : Int) > 7) = true from .inl c1)]; exact hsame _ hk.symm
      · rw [if_neg c1]
        by_cases c2 : decide ((l.length : Int) > 7) = true
        · rw [if_pos c2, if_pos (show (decide (k < 0) || decide (k > 999)) = true ∨ decide ((l.length : Int) > 7) = true from .inr c2)]; exact hsame _ hk.symm
        · rw [if_neg c2, if_neg (show ¬ ((decide (k < 0) || decide (k > 999)) = true ∨ decide ((l.length : Int) > 7) = true) from fun h => h.elim c1 c2)]
          simp only [Option.getD_some]
          have e : l ++ [(k, (0, 0, 0, 0))] = put4 l k (0, 0, 0, 0) := by
            rcases idx_spec k l 0 with ⟨_, _, h3⟩ | ⟨a, n, b, _, _, h3, _⟩
            · rw [h3]
            · rw [hk] at h3; cases h3
          rw [e, get_put]
  rw [if_neg h1, if_neg h1]
  by_cases h2 : w = 2
  · rw [if_pos h2, if_pos h2]
    unfold closeW
    cases hk : get l k with
    | some n =>
      simp only [Option.isSome_some, if_true, Option.getD_some]
      rw [get_del _ _ _ hg.nodup]
    | none =>
      simp only [Option.isSome_none, Bool.false_eq_true, if_false, Option.getD_none]
      exact hsame _ hk.symm
  rw [if_neg h2, if_neg h2]
  by_cases h3 : w = 3 ∨ w = 4
  · rw [if_pos h3, if_pos h3]
    unfold putW
    cases hk : get l k with
    | none =>
      split
      · exact hsame _ hk.symm
      · exact hsame _ hk.symm
    | some n =>
      simp only
      by_cases c1 : (decide (m < 0) || decide (m > 3)) = true
      · rw [if_pos c1, if_pos c1]; exact hsame _ hk.symm
      · rw [if_neg c1, if_neg c1]
        by_cases c2 : decide (nat4 n m > 2) = true
        · rw [if_pos c2, if_pos c2]; exact hsame _ hk.symm
        · rw [if_neg c2, if_neg c2]
          simp only [Option.getD_some]
          rw [get_put]
  rw [if_neg h3, if_neg h3]
  by_cases h4 : w = 5
  · rw [if_pos h4, if_pos h4]
    unfold takeW
    cases hk : get l k with
    | none =>
      split
      · exact hsame _ hk.symm
      · exact hsame _ hk.symm
    | some n =>
      simp only
      by_cases c1 : (decide (m < 0) || decide (m > 3)) = true
      · rw [if_pos c1, if_pos c1]; exact hsame _ hk.symm
      · rw [if_neg c1, if_neg c1]
        by_cases c2 : (nat4 n m == 0) = true
        · rw [if_pos c2, if_pos c2]; exact hsame _ hk.symm
        · rw [if_neg c2, if_neg c2]
          simp only [Option.getD_some]
          rw [get_put]
  rw [if_neg h4, if_neg h4]
  exact hsame _ rfl

theorem ok4_set {n : N4} {m v : Int} (h : ok4 n) (hv : 0 ≤ v ∧ v ≤ 3) : ok4 (set4' n m v) := by
  obtain ⟨h1, h2, h3, h4⟩ := h
  unfold set4'
  split
  · exact ⟨hv, h2, h3, h4⟩
  · split
    · exact ⟨h1, hv, h3, h4⟩
    · split
      · exact ⟨h1, h2, hv, h4⟩
      · exact ⟨h1, h2, h3, hv⟩
theorem ok4_nat {n : N4} (m : Int) (h : ok4 n) : 0 ≤ nat4 n m ∧ nat4 n m ≤ 3 := by
  obtain ⟨h1, h2, h3, h4⟩ := h
  unfold nat4
  split
  · exact h1
  · split
    · exact h2
    · split
      · exact h3
      · exact h4
theorem good_put {l : Bxs} (hg : Good l) {k : Int} {n n' : N4} (hk : get l k = some n) (hn : ok4 n') : Good (put4 l k n') := by
  rcases idx_spec k l 0 with ⟨h1, _⟩ | ⟨a, n0, b, h1, _, h3, h4, _⟩
  · rw [hk] at h1; cases h1
  · rw [h4]
    subst h1
    refine ⟨by have := hg.len; simpa using this, fun p hp => ?_, by have := hg.nodup; simpa using this⟩
    rcases List.mem_append.1 hp with hp | hp
    · exact hg.ok p (List.mem_append_left _ hp)
    · rcases List.mem_cons.1 hp with rfl | hp
      · exact ⟨(hg.ok (k, n0) (by simp)).1, hn⟩
      · exact hg.ok p (List.mem_append_right _ (List.mem_cons_of_mem _ hp))
theorem good_nxt {l : Bxs} (hg : Good l) (s : Int × Int × Int) : Good (nxt l s) := by
  obtain ⟨w, k, m⟩ := s
  unfold nxt step
  simp only
  split
  · unfold openW
    split
    · exact hg
    · rename_i c1
      split
      · exact hg
      · rename_i c2
        split
        · exact hg
        · rename_i c3
          simp only [Bool.or_eq_true, decide_eq_true_eq, not_or] at c1 c3
          have hn : get l k = none := by cases h : get l k <;> simp_all
          refine ⟨by simp; omega, fun p hp => ?_, ?_⟩
          · rcases List.mem_append.1 hp with hp | hp
            · exact hg.ok p hp
            · simp only [List.mem_singleton] at hp
              subst hp
              exact ⟨by simp only; omega, ⟨Int.le_refl 0, by simp only; omega⟩, ⟨Int.le_refl 0, by simp only; omega⟩, ⟨Int.le_refl 0, by simp only; omega⟩, ⟨Int.le_refl 0, by simp only; omega⟩⟩
          · simp only [Option.getD_some]
            rw [List.map_append, List.nodup_append]
            refine ⟨hg.nodup, by simp, fun x hx y hy e => ?_⟩
            simp only [List.map_cons, List.map_nil, List.mem_singleton] at hy
            obtain ⟨q, hq, rfl⟩ := List.mem_map.1 hx
            exact get_none.1 hn q hq (e.trans hy)
  · split
    · unfold closeW
      split
      · rcases idx_spec k l 0 with ⟨h1, _⟩ | ⟨a, n0, b, h1, _, h3, _, h5⟩
        · rename_i c _; simp [h1] at c
        · simp only [Option.getD_some]
          rw [h5]
          subst h1
          refine ⟨by have := hg.len; simp at this ⊢; omega, fun p hp => hg.ok p ?_, ?_⟩
          · rcases List.mem_append.1 hp with hp | hp
            · exact List.mem_append_left _ hp
            · exact List.mem_append_right _ (List.mem_cons_of_mem _ hp)
          · have hn := hg.nodup
            have hs : List.Sublist ((a ++ b).map (·.1)) ((a ++ (k, n0) :: b).map (·.1)) := (List.Sublist.append (List.Sublist.refl _) (List.sublist_cons_self ..)).map _
            exact hs.nodup hn
      · exact hg
    · split
      · unfold putW
        split
        · exact hg
        · cases hk : get l k with
          | none => exact hg
          | some n =>
            simp only
            have h4 : ok4 n := (hg.ok _ (get_mem hk)).2
            have h5 := ok4_nat m h4
            split
            · exact hg
            · rename_i c
              simp only [decide_eq_true_eq] at c
              refine good_put hg hk (ok4_set h4 ?_)
              rw [wrap_lo (by omega) (by omega)]; omega
      · split
        · unfold takeW
          split
          · exact hg
          · cases hk : get l k with
            | none => exact hg
            | some n =>
              simp only
              have h4 : ok4 n := (hg.ok _ (get_mem hk)).2
              have h5 := ok4_nat m h4
              split
              · exact hg
              · rename_i c
                simp only [beq_iff_eq] at c
                refine good_put hg hk (ok4_set h4 ?_)
                rw [wrap_lo (by omega) (by omega)]; omega
        · exact hg

/-! ### keys -/
def keysZ (l : Bxs) : List Int := sortI (l.map (·.1))
theorem keys_nil : sortedKeys (ents []) = .dat .nil := rfl
theorem keys_cons {l : Bxs} (h : l ≠ []) : sortedKeys (ents l) = .own true 1 (rowsOf (keysZ l)) := by
  cases l with
  | nil => exact absurd rfl h
  | cons p ps => simp [ents, sortedKeys, keysZ, List.map_map, Function.comp_def]
theorem keys_len (l : Bxs) : (keysZ l).length = l.length := by simp [keysZ, sortI_len']
where
  sortI_len' (zs : List Int) : (sortI zs).length = zs.length := List.length_mergeSort ..
theorem keys_mem (l : Bxs) (x : Int) : x ∈ keysZ l ↔ x ∈ l.map (·.1) := List.mem_mergeSort ..
theorem keys_sorted {l : Bxs} (hg : Good l) : (keysZ l).Pairwise (· < ·) := by
  have s1 : (keysZ l).Pairwise (· ≤ ·) := (List.pairwise_mergeSort (le := fun x y : Int => decide (x ≤ y)) (fun a b c h1 h2 => by simp only [decide_eq_true_eq] at *; omega) (fun a b => by simp only [Bool.or_eq_true, decide_eq_true_eq]; omega) (l.map (·.1))).imp fun h => by simpa using h
  have hp : (keysZ l).Perm (l.map (·.1)) := List.mergeSort_perm _ _
  have hn : (keysZ l).Nodup := hp.nodup_iff.2 hg.nodup
  exact (s1.and hn).imp fun ⟨h1, h2⟩ => by omega
theorem keys_in {l : Bxs} (hg : Good l) : (ents l).all keyIn = true := by
  rw [List.all_eq_true]
  intro x hx
  simp only [ents, List.mem_map] at hx
  obtain ⟨p, hp, rfl⟩ := hx
  have := (hg.ok p hp).1
  exact decide_eq_true (by simp only; omega)
theorem ents_le {l : Bxs} (hg : Good l) : ((ents l).length ≤ 1000) = True := by
  have := hg.len
  rw [ents_len]; simp; omega
end Go.Proofs.Ytgppmcpbphgnnaa
