/- What the laws answer: PostCounts. No condition. -/
import Derived.Test.YtgppmcpbphgnnaaP11e
import Derived.Test.YtgppmcpbphgnnaaP16
set_option linter.unusedSimpArgs false
set_option linter.unusedVariables false
set_option linter.unusedSectionVars false
namespace Go.Proofs.Ytgppmcpbphgnnaa
open Go Go.Vx
set_option maxRecDepth 10000

theorem does5 {l : Bxs} (hg : Good l) (s : Stp3) : Does5 (OB l) (RB l) (OB (nxt l s)) (RB (nxt l s)) s.1 s.2.1 s.2.2 := by
  have h : ∀ r : List Box, _ := fun r => does_ev (w := s.1) (k := s.2.1) (m := s.2.2) hg (bx := OB l :: RB l :: r) (lo := 0) (lw := 1) (by simp) (by simp) (by decide) rfl rfl
  unfold nxt
  cases hs : step l s.1 s.2.1 s.2.2 with
  | none => exact .inl ⟨rfl, rfl, fun r => by have := h r; rw [hs] at this; exact this⟩
  | some l' => exact .inr fun r => by have := h r; rw [hs] at this; exact this

theorem nat_set {n : N4} {m j v : Int} (hm : 0 ≤ m ∧ m ≤ 3) (hj : 0 ≤ j ∧ j ≤ 3) : nat4 (set4' n j v) m = if m = j then v else nat4 n m := by
  have h1 : m = 0 ∨ m = 1 ∨ m = 2 ∨ m = 3 := by omega
  have h2 : j = 0 ∨ j = 1 ∨ j = 2 ∨ j = 3 := by omega
  rcases h1 with rfl | rfl | rfl | rfl <;> rcases h2 with rfl | rfl | rfl | rfl <;> simp [nat4, set4']

/-- what a step does to what waits in an open box -/
theorem stay_num {l : Bxs} (hg : Good l) {w key sm : Int} {n n' : N4} (h : get l key = some n) (h' : get (nxt l (w, key, sm)) key = some n') {m : Int} (hm : 0 ≤ m ∧ m ≤ 3) :
    (nat4 n' m = nat4 n m) ∨ (sm = m ∧ (nat4 n' m = nat4 n m + 1 ∨ nat4 n' m = nat4 n m - 1)) := by
  have h1 := get_nxt hg w key sm key
  rw [if_pos rfl, h, h'] at h1
  have h4 : ok4 n := (hg.ok _ (get_mem h)).2
  have h5 := ok4_nat sm h4
  unfold nxtG at h1
  split at h1
  · obtain rfl := Option.some.inj h1; exact .inl rfl
  · split at h1
    · cases h1
    · split at h1
      · simp only at h1
        split at h1
        · obtain rfl := Option.some.inj h1; exact .inl rfl
        · rename_i c1
          simp only [Bool.or_eq_true, decide_eq_true_eq, not_or] at c1
          split at h1
          · obtain rfl := Option.some.inj h1; exact .inl rfl
          · obtain rfl := Option.some.inj h1
            rw [nat_set hm (by omega), wrap_lo (by omega) (by omega)]
            split
            · rename_i e; subst e; exact .inr ⟨rfl, .inl rfl⟩
            · exact .inl rfl
      · split at h1
        · simp only at h1
          split at h1
          · obtain rfl := Option.some.inj h1; exact .inl rfl
          · rename_i c1
            simp only [Bool.or_eq_true, decide_eq_true_eq, not_or] at c1
            split at h1
            · obtain rfl := Option.some.inj h1; exact .inl rfl
            · obtain rfl := Option.some.inj h1
              rw [nat_set hm (by omega), wrap_lo (by omega) (by omega)]
              split
              · rename_i e; subst e; exact .inr ⟨rfl, .inr rfl⟩
              · exact .inl rfl
        · obtain rfl := Option.some.inj h1; exact .inl rfl
theorem opened {l : Bxs} (hg : Good l) {w key sm : Int} {n' : N4} (h : get l key = none) (h' : get (nxt l (w, key, sm)) key = some n') : n' = (0, 0, 0, 0) := by
  have h1 := get_nxt hg w key sm key
  rw [if_pos rfl, h, h'] at h1
  unfold nxtG at h1
  split at h1
  · simp only at h1
    split at h1
    · cases h1
    · exact Option.some.inj h1
  · split at h1
    · cases h1
    · split at h1
      · cases h1
      · split at h1 <;> cases h1

theorem counts_loop {K : D} {ss : List Stp3} {key m : Int} (hm : 0 ≤ m ∧ m ≤ 3) (hK : IsS 3 (srows ss) K) (hmax : (srows ss).length < 9223372036854775808) : ∀ (t : List Stp3) (i : Nat) (l : Bxs) (N : Int), ss.drop i = t → Good l → (∀ n, get l key = some n → nat4 n m = N) →
    ∃ l', ev cfg (.loop 5 7 ⟨(.dead :: I key :: I m :: .dead :: .dead :: .dead :: .dead :: .ptr 0 0 :: .ptr 1 0 :: I N :: .dead :: .dead :: .dead :: .dead :: .dead :: .dead :: .dead :: .dead :: .dead :: .dead :: .dead :: .dead :: .dead :: .dead :: .dead :: .dead :: .dead :: .dead :: .dead :: .dead :: .dead :: .dead :: .dead :: .dead :: .dead :: .dead :: .dead :: .dead :: .dead :: .dat K :: I (srows ss).length :: I i :: .dead :: .dead :: .dead :: .dead :: .dead :: .dead :: .dead :: .dead :: .dead :: .dead :: .dead :: .dead :: .dead :: .dead :: .dead :: .dead :: .dead :: .dead :: .dead :: .dead :: .dead :: .dead :: .dead :: .dead :: .dead :: .dead :: .dead :: .dead :: .dead :: .dead :: .dead :: .dead :: .dead :: .dead :: .dead :: .dead :: .dead :: .dead :: .dead :: .dead :: .dead :: .dead :: .dead :: .dead :: .dead :: .dead :: .dead :: .dead :: .dead :: .dead :: .dead :: .dead :: .dead :: .dead :: .dead :: .dead :: .dead :: .dead :: .dead :: .dead :: .dead :: .dead :: .dead :: .dead :: .dead :: .dead :: .dead :: .dead :: .dead :: .dead :: .dead :: .dead :: .dead :: .dead :: .dead :: .dead :: []), [OB l, RB l], 0, none, false⟩) = some (.loop (.exit 0) ⟨(.dead :: .dead :: .dead :: .dead :: .dead :: .dead :: .dead :: .dead :: .dead :: .dead :: .dead :: .dead :: .dead :: .dead :: .dead :: .dead :: .dead :: .dead :: .dead :: .dead :: .dead :: .dead :: .dead :: .dead :: .dead :: .dead :: .dead :: .dead :: .dead :: .dead :: .dead :: .dead :: .dead :: .dead :: .dead :: .dead :: .dead :: .dead :: .dead :: .dead :: .dead :: .dead :: .dead :: .dead :: .dead :: .dead :: .dead :: .dead :: .dead :: .dead :: .dead :: .dead :: .dead :: .dead :: .dead :: .dead :: .dead :: .dead :: .dead :: .dead :: .dead :: .dead :: .dead :: .dead :: .dead :: .dead :: .dead :: .dead :: .dead :: .dead :: .dead :: .dead :: .dead :: .dead :: .dead :: .dead :: .dead :: .dead :: .dead :: .dead :: .dead :: .dead :: .dead :: .dead :: .dead :: .dead :: .dead :: .dead :: .dead :: .dead :: .dead :: .dead :: .dead :: .dead :: .dead :: .dead :: .dead :: .dead :: .dead :: .dead :: .dead :: .dead :: .dead :: .dead :: .dead :: .dead :: .dead :: .dead :: .dead :: .dead :: .dead :: .dead :: .dead :: .dead :: .dead :: .dead :: .dead :: .dead :: []), [OB l', RB l'], 0, none, false⟩)
  | [], i, l, N, h, _, _ => ⟨l, ev_step cfg (e5_7 (by rw [srows_len]; exact drop_nil h) rfl (RB_lt _ _))⟩
  | s :: t, i, l, N, h, hg, hN => by
    obtain ⟨w, k, sm⟩ := s
    obtain ⟨h1, h2, h3⟩ := drop_cons h
    have hget := srows_get h1
    simp only at hget
    have hlt : i < (srows ss).length := by rw [srows_len]; exact h3
    have hg1 := good_nxt hg (w, k, sm)
    have hd : Does5 (OB l) (RB l) (OB (nxt l (w, k, sm))) (RB (nxt l (w, k, sm))) w k sm := does5 hg (w, k, sm)
    have hw1 : ∀ r, ev cfg (.call 11 [.ptr 0 0, I k] (OB l :: RB l :: r)) = _ := fun r => wait_ev (l := l) (lo := 0) k (by simp) rfl
    have hw2 : ∀ r, ev cfg (.call 11 [.ptr 0 0, I k] (OB (nxt l (w, k, sm)) :: RB (nxt l (w, k, sm)) :: r)) = _ := fun r => wait_ev (l := nxt l (w, k, sm)) (lo := 0) k (by simp) rfl
    by_cases hk : k = key
    · subst hk
      have hm' : m = 0 ∨ m = 1 ∨ m = 2 ∨ m = 3 := by omega
      cases q1 : get l k with
      | none =>
        cases q2 : get (nxt l (w, k, sm)) k with
        | none =>
          obtain ⟨l', hl'⟩ := counts_loop (key := k) hm hK hmax t (i + 1) _ N h2 hg1 (fun n hn => by rw [q2] at hn; cases hn)
          rw [q1] at hw1; rw [q2] at hw2
          refine ⟨l', ev_step cfg ?_⟩
          rw [← hl']
          exact r5_turn hK hget hlt hmax hd hw1 hw2 rfl (RB_lt _ _) (.inl ⟨rfl, rfl, rfl⟩)
        | some n' =>
          have hz := opened hg q1 q2
          subst hz
          obtain ⟨l', hl'⟩ := counts_loop (key := k) hm hK hmax t (i + 1) _ 0 h2 hg1 (fun n hn => by
            rw [q2] at hn
            obtain rfl := Option.some.inj hn
            rcases hm' with rfl | rfl | rfl | rfl <;> rfl)
          rw [q1] at hw1; rw [q2] at hw2
          refine ⟨l', ev_step cfg ?_⟩
          rw [← hl']
          refine r5_turn hK hget hlt hmax hd hw1 hw2 rfl (RB_lt _ _) (.inr (.inr ⟨rfl, rfl, rfl, ?_⟩))
          rcases hm' with rfl | rfl | rfl | rfl
          · exact .inl ⟨rfl, by decide⟩
          · exact .inr (.inl ⟨rfl, by decide⟩)
          · exact .inr (.inr (.inl ⟨rfl, by decide⟩))
          · exact .inr (.inr (.inr ⟨rfl, by decide⟩))
      | some n =>
        cases q2 : get (nxt l (w, k, sm)) k with
        | none =>
          obtain ⟨l', hl'⟩ := counts_loop (key := k) hm hK hmax t (i + 1) _ 0 h2 hg1 (fun n hn => by rw [q2] at hn; cases hn)
          rw [q1] at hw1; rw [q2] at hw2
          refine ⟨l', ev_step cfg ?_⟩
          rw [← hl']
          exact r5_turn hK hget hlt hmax hd hw1 hw2 rfl (RB_lt _ _) (.inr (.inl ⟨rfl, rfl, rfl⟩))
        | some n' =>
          have hp := hN n q1
          have hok : ok4 n := (hg.ok _ (get_mem q1)).2
          have hok' : ok4 n' := (hg1.ok _ (get_mem q2)).2
          have b1 := ok4_nat m hok
          have b2 := ok4_nat m hok'
          have hs := stay_num hg q1 q2 hm
          obtain ⟨l', hl'⟩ := counts_loop (key := k) hm hK hmax t (i + 1) _ (nat4 n' m) h2 hg1 (fun n hn => by
            rw [q2] at hn
            obtain rfl := Option.some.inj hn
            rfl)
          rw [q1] at hw1; rw [q2] at hw2
          refine ⟨l', ev_step cfg ?_⟩
          rw [← hl']
          refine r5_stay (p := nat4 n m) (a := nat4 n' m) hK hget hlt hmax hd hw1 hw2 rfl (RB_lt _ _) ?_ ?_ (by simp)
          · rcases hm' with rfl | rfl | rfl | rfl
            · exact .inl ⟨rfl, rfl, rfl⟩
            · exact .inr (.inl ⟨rfl, rfl, rfl⟩)
            · exact .inr (.inr (.inl ⟨rfl, rfl, rfl⟩))
            · exact .inr (.inr (.inr ⟨rfl, rfl, rfl⟩))
          · by_cases hsm : sm = m
            · refine .inl ⟨by simpa using hsm, ?_, ?_, ?_⟩
              · rw [wrap_lo (n := N + nat4 n' m) (by omega) (by omega), wrap_lo (by omega) (by omega)]; omega
              · rw [wrap_lo (by omega) (by omega)]; exact decide_eq_false (by rcases hs with h | ⟨_, h | h⟩ <;> omega)
              · rw [wrap_lo (by omega) (by omega)]; exact decide_eq_false (by rcases hs with h | ⟨_, h | h⟩ <;> omega)
            · refine .inr ⟨by simpa using hsm, ?_⟩
              rcases hs with h | ⟨h, _⟩
              · rw [h, hp]
              · exact absurd h hsm
    · obtain ⟨l', hl'⟩ := counts_loop (key := key) hm hK hmax t (i + 1) _ N h2 hg1 (fun n hn => by
        rw [get_nxt hg w k sm key, if_neg (Ne.symm hk)] at hn
        exact hN n hn)
      refine ⟨l', ev_step cfg ?_⟩
      rw [← hl']
      exact r5_other hK hget hlt hmax (by simpa using hk) hd hw1 hw2 rfl (RB_lt _ _)

theorem postCounts_ev {K : D} {ss : List Stp3} (key m : Int) (hK : IsS 3 (srows ss) K) (hmax : (srows ss).length < 9223372036854775808) : ev cfg (.call 5 [.dat K, I key, I m] []) = some (.ret (B true) none) := by
  cases c1 : decide (m < 0) with
  | true => exact ev_step cfg (f5_bad hK (fun bx => one_ev) (by rw [c1]; rfl))
  | false =>
    cases c2 : decide (m > 3) with
    | true => exact ev_step cfg (f5_bad hK (fun bx => one_ev) (by rw [c1, c2]; rfl))
    | false =>
      cases hb : decide (((srows ss).length : Int) > 200) with
      | true => exact ev_step cfg (f5_bad hK (fun bx => one_ev) (by rw [c1, c2, hb]; rfl))
      | false =>
        have hm : 0 ≤ m ∧ m ≤ 3 := ⟨by have := of_decide_eq_false c1; omega, by have := of_decide_eq_false c2; omega⟩
        obtain ⟨l', h⟩ := counts_loop (key := key) hm hK hmax ss 0 [] 0 rfl good_nil (fun n hn => by cases hn)
        exact ev_step cfg (f5 hK (fun bx => one_ev) c1 c2 hb h)
end Go.Proofs.Ytgppmcpbphgnnaa
