/- What the laws answer: PostApart, PostCopies, PostNil. No condition. -/
import Derived.Test.YtgppmcpbphgnnaaP10
import Derived.Test.YtgppmcpbphgnnaaP12
import Derived.Test.YtgppmcpbphgnnaaP13
import Derived.Test.YtgppmcpbphgnnaaP15
set_option linter.unusedSimpArgs false
set_option linter.unusedVariables false
set_option linter.unusedSectionVars false
namespace Go.Proofs.Ytgppmcpbphgnnaa
open Go Go.Vx
set_option maxRecDepth 10000

theorem OB_lt (h : Nat) (l : Bxs) : (OB l).all (cellLt h) = true := rfl

/-- a step, as two cases of what it turns -/
theorem does_ef {l : Bxs} (hg : Good l) (s : Stp3) {bx : List Box} {lo lw : Nat} (hlo : lo < bx.length) (hlw : lw < bx.length) (hne : lo ≠ lw) (hO : bx[lo]? = some (OB l)) (hR : bx[lw]? = some (RB l)) :
    ∃ ef, ev cfg (.call 10 [.ptr lo 0, .ptr lw 0, .agg [I s.1, I s.2.1, I s.2.2]] bx) = some (.ret (B true) ef) ∧ ((ef = none ∧ OB (nxt l s) = OB l ∧ RB (nxt l s) = RB l) ∨ ef = some ⟨(bx.set lo (OB (nxt l s))).set lw (RB (nxt l s)), min lo lw, false⟩) := by
  rcases does3 hg s hlo hlw hne hO hR with ⟨h, hd⟩ | hd
  · exact ⟨_, hd, .inl ⟨rfl, by rw [h], by rw [h]⟩⟩
  · exact ⟨_, hd, .inr rfl⟩

/-! ### PostApart -/
structure Apart (key : Int) (l p : Bxs) : Prop where
  gl : Good l
  gp : Good p
  one : p.length ≤ 1
  only : ∀ x ∈ p, x.1 = key
  same : get p key = get l key

theorem len_one {p : Bxs} {key : Int} (hg : Good p) (h : ∀ x ∈ p, x.1 = key) : p.length ≤ 1 := by
  match p, h with
  | [], _ => simp
  | [x], _ => simp
  | x :: y :: r, h =>
    have hn := hg.nodup
    simp only [List.map_cons, List.nodup_cons, List.mem_cons, not_or] at hn
    have h1 := h x (by simp)
    have h2 := h y (by simp)
    exact absurd (h1.trans h2.symm) hn.1.1

theorem only_nxt {p : Bxs} {key : Int} (hg : Good p) (h : ∀ x ∈ p, x.1 = key) (w m : Int) : ∀ x ∈ nxt p (w, key, m), x.1 = key := by
  intro x hx
  have hgn := good_nxt hg (w, key, m)
  by_cases hxk : x.1 = key
  · exact hxk
  · have h1 := get_nxt hg w key m x.1
    rw [if_neg hxk] at h1
    have h2 : get p x.1 = none := get_none.2 fun y hy e => hxk (by rw [← e]; exact h y hy)
    rw [h2] at h1
    exact absurd rfl (get_none.1 h1 x hx)

theorem apart_key {l p : Bxs} {key : Int} (h : Apart key l p) (hl : ¬ l.length > 6) (w m : Int) : Apart key (nxt l (w, key, m)) (nxt p (w, key, m)) := by
  have g1 := good_nxt h.gl (w, key, m)
  have g2 := good_nxt h.gp (w, key, m)
  have ho := only_nxt h.gp h.only w m
  refine ⟨g1, g2, len_one g2 ho, ho, ?_⟩
  have h1 := get_nxt h.gl w key m key
  have h2 := get_nxt h.gp w key m key
  have f1 : decide ((l.length : Int) > 7) = false := decide_eq_false (by omega)
  have f2 : decide ((p.length : Int) > 7) = false := decide_eq_false (by have := h.one; omega)
  rw [if_pos rfl, f1] at h1
  rw [if_pos rfl, f2, h.same] at h2
  rw [h1, h2]
theorem apart_other {l p : Bxs} {key : Int} (h : Apart key l p) {k : Int} (hk : k ≠ key) (w m : Int) : Apart key (nxt l (w, k, m)) p := by
  refine ⟨good_nxt h.gl (w, k, m), h.gp, h.one, h.only, ?_⟩
  rw [get_nxt h.gl w k m key, if_neg (Ne.symm hk)]
  exact h.same

theorem apart_loop {K : D} {ss : List Stp3} {key : Int} (hK : IsS 3 (srows ss) K) (hmax : (srows ss).length < 9223372036854775808) : ∀ (t : List Stp3) (i : Nat) (l p : Bxs), ss.drop i = t → Apart key l p →
    ∃ (x : Bool) (O' P' R' V' : Box), ev cfg (.loop 4 8 ⟨(.dead :: I key :: .dead :: .dead :: .dead :: .ptr 0 0 :: .ptr 1 0 :: .ptr 2 0 :: .ptr 3 0 :: .dead :: .dead :: .dead :: .dead :: .dead :: .dead :: .dead :: .dead :: .dead :: .dead :: .dead :: .dead :: .dead :: .dead :: .dead :: .dead :: .dead :: .dead :: .dead :: .dead :: .dead :: .dead :: .dead :: .dead :: .dead :: .dead :: .dead :: .dead :: .dead :: .dead :: .dead :: .dead :: .dat K :: I (srows ss).length :: I i :: .dead :: .dead :: .dead :: .dead :: .dead :: .dead :: .dead :: .dead :: .dead :: .dead :: .dead :: .dead :: .dead :: .dead :: .dead :: .dead :: .dead :: .dead :: .dead :: .dead :: .dead :: .dead :: .dead :: .dead :: .dead :: .dead :: .dead :: .dead :: .dead :: .dead :: .dead :: .dead :: .dead :: .dead :: .dead :: .dead :: .dead :: .dead :: .dead :: .dead :: .dead :: .dead :: []), [OB l, OB p, RB l, RB p], 0, none, false⟩) =
      some (if x = true then .loop .ret ⟨(.dead :: .dead :: .dead :: .dead :: B true :: .dead :: .dead :: .dead :: .dead :: .dead :: .dead :: .dead :: .dead :: .dead :: .dead :: .dead :: .dead :: .dead :: .dead :: .dead :: .dead :: .dead :: .dead :: .dead :: .dead :: .dead :: .dead :: .dead :: .dead :: .dead :: .dead :: .dead :: .dead :: .dead :: .dead :: .dead :: .dead :: .dead :: .dead :: .dead :: .dead :: .dead :: .dead :: .dead :: .dead :: .dead :: .dead :: .dead :: .dead :: .dead :: .dead :: .dead :: .dead :: .dead :: .dead :: .dead :: .dead :: .dead :: .dead :: .dead :: .dead :: .dead :: .dead :: .dead :: .dead :: .dead :: .dead :: .dead :: .dead :: .dead :: .dead :: .dead :: .dead :: .dead :: .dead :: .dead :: .dead :: .dead :: .dead :: .dead :: .dead :: .dead :: .dead :: .dead :: .dead :: .dead :: []), [O', P', R', V'], 0, none, false⟩ else .loop (.exit 0) ⟨(.dead :: .dead :: .dead :: .dead :: .dead :: .dead :: .dead :: .dead :: .dead :: .dead :: .dead :: .dead :: .dead :: .dead :: .dead :: .dead :: .dead :: .dead :: .dead :: .dead :: .dead :: .dead :: .dead :: .dead :: .dead :: .dead :: .dead :: .dead :: .dead :: .dead :: .dead :: .dead :: .dead :: .dead :: .dead :: .dead :: .dead :: .dead :: .dead :: .dead :: .dead :: .dead :: .dead :: .dead :: .dead :: .dead :: .dead :: .dead :: .dead :: .dead :: .dead :: .dead :: .dead :: .dead :: .dead :: .dead :: .dead :: .dead :: .dead :: .dead :: .dead :: .dead :: .dead :: .dead :: .dead :: .dead :: .dead :: .dead :: .dead :: .dead :: .dead :: .dead :: .dead :: .dead :: .dead :: .dead :: .dead :: .dead :: .dead :: .dead :: .dead :: .dead :: .dead :: .dead :: .dead :: .dead :: []), [O', P', R', V'], 0, none, false⟩)
  | [], i, l, p, h, _ => ⟨false, _, _, _, _, ev_step cfg (e4_8 (by rw [srows_len]; exact drop_nil h) rfl rfl (RB_lt _ _) (RB_lt _ _))⟩
  | s :: t, i, l, p, h, ha => by
    obtain ⟨w, k, m⟩ := s
    obtain ⟨h1, h2, h3⟩ := drop_cons h
    have hget := srows_get h1
    simp only at hget
    have hlt : i < (srows ss).length := by rw [srows_len]; exact h3
    have hlen : (rowsOf (keysZ l)).length = l.length := by rw [← keys_len]; simp [rowsOf]
    by_cases hfull : l.length > 6
    · have hne : l ≠ [] := by rintro rfl; simp at hfull
      exact ⟨true, _, _, _, _, ev_step cfg (r4_full hK hget hlt (fun bx => one_ev) (keys_cons hne) (keys_in ha.gl) (ents_le ha.gl) (decide_eq_true (by rw [hlen]; omega)) rfl (RB_lt _ _) (RB_lt _ _))⟩
    · have hkk : (ents l = [] ∧ sortedKeys (ents l) = .dat .nil) ∨ (sortedKeys (ents l) = .own true 1 (rowsOf (keysZ l)) ∧ decide (((rowsOf (keysZ l)).length : Int) > 6) = false) := by
        by_cases hne : l = []
        · subst hne; exact .inl ⟨rfl, rfl⟩
        · exact .inr ⟨keys_cons hne, decide_eq_false (by rw [hlen]; omega)⟩
      by_cases hk : k = key
      · subst hk
        have ha' := apart_key ha hfull w m
        obtain ⟨x, O', P', R', V', hx⟩ := apart_loop (key := k) hK hmax t (i + 1) (nxt l (w, k, m)) (nxt p (w, k, m)) h2 ha'
        refine ⟨x, O', P', R', V', ev_step cfg ?_⟩
        rw [← hx]
        obtain ⟨ef, hd, hef⟩ := does_ef ha.gl (w, k, m) (bx := [OB l, OB p, RB l, RB p, [I w, I k, I m]]) (lo := 0) (lw := 2) (by simp) (by simp) (by decide) rfl rfl
        obtain ⟨ef2, hd2, hef2⟩ := does_ef ha.gp (w, k, m) (bx := [OB (nxt l (w, k, m)), OB p, RB (nxt l (w, k, m)), RB p, [I w, I k, I m]]) (lo := 1) (lw := 3) (by simp) (by simp) (by decide) rfl rfl
        have hw1 : ∀ r, ev cfg (.call 11 [.ptr 0 0, I k] (OB (nxt l (w, k, m)) :: OB (nxt p (w, k, m)) :: RB (nxt l (w, k, m)) :: RB (nxt p (w, k, m)) :: r)) = _ := fun r => wait_ev (l := nxt l (w, k, m)) (lo := 0) k (by simp) rfl
        have hw2 : ∀ r, ev cfg (.call 11 [.ptr 1 0, I k] (OB (nxt l (w, k, m)) :: OB (nxt p (w, k, m)) :: RB (nxt l (w, k, m)) :: RB (nxt p (w, k, m)) :: r)) = _ := fun r => wait_ev (l := nxt p (w, k, m)) (lo := 1) k (by simp) rfl
        rw [ha'.same] at hw2
        exact r4_same hK hget hlt hmax hkk (keys_in ha.gl) (ents_le ha.gl) hef hd hef2 hd2 hw1 hw2 rfl rfl (RB_lt _ _) (RB_lt _ _)
      · have ha' := apart_other ha hk w m
        obtain ⟨x, O', P', R', V', hx⟩ := apart_loop (key := key) hK hmax t (i + 1) (nxt l (w, k, m)) p h2 ha'
        refine ⟨x, O', P', R', V', ev_step cfg ?_⟩
        rw [← hx]
        obtain ⟨ef, hd, hef⟩ := does_ef ha.gl (w, k, m) (bx := [OB l, OB p, RB l, RB p, [I w, I k, I m]]) (lo := 0) (lw := 2) (by simp) (by simp) (by decide) rfl rfl
        have hw1 : ∀ r, ev cfg (.call 11 [.ptr 0 0, I key] (OB (nxt l (w, k, m)) :: OB p :: RB (nxt l (w, k, m)) :: RB p :: r)) = _ := fun r => wait_ev (l := nxt l (w, k, m)) (lo := 0) key (by simp) rfl
        have hw2 : ∀ r, ev cfg (.call 11 [.ptr 1 0, I key] (OB (nxt l (w, k, m)) :: OB p :: RB (nxt l (w, k, m)) :: RB p :: r)) = _ := fun r => wait_ev (l := p) (lo := 1) key (by simp) rfl
        rw [ha'.same] at hw2
        exact r4_other hK hget hlt hmax (by simpa using hk) hkk (keys_in ha.gl) (ents_le ha.gl) hef hd hw1 hw2 rfl rfl (RB_lt _ _) (RB_lt _ _)

theorem postApart_ev {K : D} {ss : List Stp3} (key : Int) (hK : IsS 3 (srows ss) K) (hmax : (srows ss).length < 9223372036854775808) : ev cfg (.call 4 [.dat K, I key] []) = some (.ret (B true) none) := by
  cases hb : decide (((srows ss).length : Int) > 200) with
  | true => exact ev_step cfg (f4_big hK (fun bx => one_ev) hb)
  | false =>
    obtain ⟨x, O', P', R', V', h⟩ := apart_loop (key := key) hK hmax ss 0 [] [] rfl ⟨good_nil, good_nil, by simp, by simp, rfl⟩
    exact ev_step cfg (f4 hK (fun bx => one_ev) hb h)

/-! ### PostCopies -/
theorem copies6 {K M : D} {ss : List Stp3} {key : Int} (hK : IsS 3 (srows ss) K) (hM : M.oneC = true) (hmax : (srows ss).length < 9223372036854775808) : ∀ (t : List Stp3) (i : Nat) (l : Bxs), ss.drop i = t → Good l →
    ev cfg (.loop 6 6 ⟨(.dat K :: .dat M :: I key :: .dead :: .dead :: .dead :: .dead :: .ptr 0 0 :: .ptr 1 0 :: .dead :: .dead :: .dead :: .dead :: .dead :: .dead :: .dead :: .dead :: .dead :: .dead :: .dead :: .dead :: .dead :: .dead :: .dead :: .dead :: .dead :: .dead :: .dead :: .dead :: .dead :: .dead :: .dead :: .dead :: .dead :: .dead :: .dead :: .dead :: .dead :: .dead :: .dead :: .dead :: .dead :: .dat K :: I (srows ss).length :: I i :: .dead :: .dead :: .dead :: .dead :: .dead :: .dead :: .dead :: .dead :: .dead :: .dead :: .dead :: .dead :: .dead :: .dead :: .dead :: .dead :: .dead :: .dead :: .dead :: .dead :: .dead :: .dead :: .dead :: .dead :: .dead :: .dead :: .dead :: .dead :: .dead :: .dead :: .dead :: .dead :: .dead :: .dead :: .dead :: .dead :: .dead :: .dead :: .dead :: .dead :: .dead :: .dead :: .dead :: .dead :: .dead :: .dead :: .dead :: .dead :: .dead :: .dead :: .dead :: .dead :: .dead :: .dead :: .dead :: .dead :: .dead :: .dead :: .dead :: .dead :: .dead :: .dead :: .dead :: .dead :: .dead :: []), [OB l, RB l], 0, none, false⟩) = some (.loop (.exit 0) ⟨(.dat K :: .dat M :: I key :: .dead :: .dead :: .dead :: .dead :: .ptr 0 0 :: .ptr 1 0 :: .dead :: .dead :: .dead :: .dead :: .dead :: .dead :: .dead :: .dead :: .dead :: .dead :: .dead :: .dead :: .dead :: .dead :: .dead :: .dead :: .dead :: .dead :: .dead :: .dead :: .dead :: .dead :: .dead :: .dead :: .dead :: .dead :: .dead :: .dead :: .dead :: .dead :: .dead :: .dead :: .dead :: .dead :: .dead :: .dead :: .dead :: .dead :: .dead :: .dead :: .dead :: .dead :: .dead :: .dead :: .dead :: .dead :: .dead :: .dead :: .dead :: .dead :: .dead :: .dead :: .dead :: .dead :: .dead :: .dead :: .dead :: .dead :: .dead :: .dead :: .dead :: .dead :: .dead :: .dead :: .dead :: .dead :: .dead :: .dead :: .dead :: .dead :: .dead :: .dead :: .dead :: .dead :: .dead :: .dead :: .dead :: .dead :: .dead :: .dead :: .dead :: .dead :: .dead :: .dead :: .dead :: .dead :: .dead :: .dead :: .dead :: .dead :: .dead :: .dead :: .dead :: .dead :: .dead :: .dead :: .dead :: .dead :: .dead :: .dead :: .dead :: []), [OB (t.foldl nxt l), RB (t.foldl nxt l)], 0, none, false⟩)
  | [], i, l, h, _ => ev_step cfg (e6_6 (by rw [srows_len]; exact drop_nil h) rfl (RB_lt _ _))
  | s :: t, i, l, h, hg => by
    obtain ⟨h1, h2, h3⟩ := drop_cons h
    have ih := copies6 (key := key) hK hM hmax t (i + 1) (nxt l s) h2 (good_nxt hg s)
    obtain ⟨ef, hd, hef⟩ := does_ef hg s (bx := [OB l, RB l, [I s.1, I s.2.1, I s.2.2]]) (lo := 0) (lw := 1) (by simp) (by simp) (by decide) rfl rfl
    refine ev_step cfg ?_
    rw [List.foldl_cons, ← ih]
    exact r6_6 hK hM (srows_get h1) (by rw [srows_len]; exact h3) hmax hef hd rfl (RB_lt _ _)
theorem copies12 {K M : D} {ms : List Stp3} {key : Int} {C : Box} (hC : C.all (cellLt 3) = true) (hM : IsS 3 (srows ms) M) (hmax : (srows ms).length < 9223372036854775808) : ∀ (t : List Stp3) (i : Nat) (l : Bxs), ms.drop i = t → Good l →
    ev cfg (.loop 6 12 ⟨(.dat K :: .dead :: I key :: .dead :: .dead :: .dead :: .dead :: .ptr 0 0 :: .ptr 1 0 :: .dead :: .dead :: .ptr 2 0 :: .dead :: .dead :: .dead :: .dead :: .dead :: .dead :: .dead :: .dead :: .dead :: .dead :: .dead :: .dead :: .dead :: .dead :: .dead :: .dead :: .dead :: .dead :: .dead :: .dead :: .dead :: .dead :: .dead :: .dead :: .dead :: .dead :: .dead :: .dead :: .dead :: .dead :: .dead :: .dead :: .dead :: .dead :: .dead :: .dead :: .dead :: .dead :: .dead :: .dead :: .dead :: .dead :: .dead :: .dat M :: I (srows ms).length :: I i :: .dead :: .dead :: .dead :: .dead :: .dead :: .dead :: .dead :: .dead :: .dead :: .dead :: .dead :: .dead :: .dead :: .dead :: .dead :: .dead :: .dead :: .dead :: .dead :: .dead :: .dead :: .dead :: .dead :: .dead :: .dead :: .dead :: .dead :: .dead :: .dead :: .dead :: .dead :: .dead :: .dead :: .dead :: .dead :: .dead :: .dead :: .dead :: .dead :: .dead :: .dead :: .dead :: .dead :: .dead :: .dead :: .dead :: .dead :: .dead :: .dead :: .dead :: .dead :: .dead :: []), [OB l, RB l, C], 0, none, false⟩) = some (.loop (.exit 2) ⟨(.dat K :: .dead :: I key :: .dead :: .dead :: .dead :: .dead :: .dead :: .dead :: .dead :: .dead :: .ptr 2 0 :: .dead :: .dead :: .dead :: .dead :: .dead :: .dead :: .dead :: .dead :: .dead :: .dead :: .dead :: .dead :: .dead :: .dead :: .dead :: .dead :: .dead :: .dead :: .dead :: .dead :: .dead :: .dead :: .dead :: .dead :: .dead :: .dead :: .dead :: .dead :: .dead :: .dead :: .dead :: .dead :: .dead :: .dead :: .dead :: .dead :: .dead :: .dead :: .dead :: .dead :: .dead :: .dead :: .dead :: .dead :: .dead :: .dead :: .dead :: .dead :: .dead :: .dead :: .dead :: .dead :: .dead :: .dead :: .dead :: .dead :: .dead :: .dead :: .dead :: .dead :: .dead :: .dead :: .dead :: .dead :: .dead :: .dead :: .dead :: .dead :: .dead :: .dead :: .dead :: .dead :: .dead :: .dead :: .dead :: .dead :: .dead :: .dead :: .dead :: .dead :: .dead :: .dead :: .dead :: .dead :: .dead :: .dead :: .dead :: .dead :: .dead :: .dead :: .dead :: .dead :: .dead :: .dead :: .dead :: .dead :: .dead :: .dead :: []), [OB (t.foldl nxt l), RB (t.foldl nxt l), C], 0, none, false⟩)
  | [], i, l, h, _ => ev_step cfg (e6_12 (by rw [srows_len]; exact drop_nil h) rfl (RB_lt _ _) hC)
  | s :: t, i, l, h, hg => by
    obtain ⟨h1, h2, h3⟩ := drop_cons h
    have ih := copies12 (K := K) (key := key) hC hM hmax t (i + 1) (nxt l s) h2 (good_nxt hg s)
    obtain ⟨ef, hd, hef⟩ := does_ef hg s (bx := [OB l, RB l, C, [I s.1, I s.2.1, I s.2.2]]) (lo := 0) (lw := 1) (by simp) (by simp) (by decide) rfl rfl
    refine ev_step cfg ?_
    rw [List.foldl_cons, ← ih]
    exact r6_12 hM (srows_get h1) (by rw [srows_len]; exact h3) hmax hef hd rfl (RB_lt _ _) hC
theorem copies19 {K : D} {ss : List Stp3} {key : Int} {O R C : Box} (hO : O.all (cellLt 5) = true) (hR : R.all (cellLt 5) = true) (hC : C.all (cellLt 5) = true) (hK : IsS 3 (srows ss) K) (hmax : (srows ss).length < 9223372036854775808) : ∀ (t : List Stp3) (i : Nat) (l : Bxs), ss.drop i = t → Good l →
    ev cfg (.loop 6 19 ⟨(.dead :: .dead :: I key :: .dead :: .dead :: .dead :: .dead :: .dead :: .dead :: .dead :: .dead :: .ptr 2 0 :: .dead :: .dead :: .ptr 3 0 :: .ptr 4 0 :: .dead :: .dead :: .dead :: .dead :: .dead :: .dead :: .dead :: .dead :: .dead :: .dead :: .dead :: .dead :: .dead :: .dead :: .dead :: .dead :: .dead :: .dead :: .dead :: .dead :: .dead :: .dead :: .dead :: .dead :: .dead :: .dead :: .dead :: .dead :: .dead :: .dead :: .dead :: .dead :: .dead :: .dead :: .dead :: .dead :: .dead :: .dead :: .dead :: .dead :: .dead :: .dead :: .dead :: .dead :: .dead :: .dead :: .dead :: .dead :: .dead :: .dead :: .dead :: .dead :: .dead :: .dat K :: I (srows ss).length :: I i :: .dead :: .dead :: .dead :: .dead :: .dead :: .dead :: .dead :: .dead :: .dead :: .dead :: .dead :: .dead :: .dead :: .dead :: .dead :: .dead :: .dead :: .dead :: .dead :: .dead :: .dead :: .dead :: .dead :: .dead :: .dead :: .dead :: .dead :: .dead :: .dead :: .dead :: .dead :: .dead :: .dead :: .dead :: .dead :: .dead :: .dead :: .dead :: []), [O, R, C, RB l, OB l], 0, none, false⟩) = some (.loop (.exit 4) ⟨(.dead :: .dead :: I key :: .dead :: .dead :: .dead :: .dead :: .dead :: .dead :: .dead :: .dead :: .ptr 2 0 :: .dead :: .dead :: .dead :: .ptr 4 0 :: .dead :: .dead :: .dead :: .dead :: .dead :: .dead :: .dead :: .dead :: .dead :: .dead :: .dead :: .dead :: .dead :: .dead :: .dead :: .dead :: .dead :: .dead :: .dead :: .dead :: .dead :: .dead :: .dead :: .dead :: .dead :: .dead :: .dead :: .dead :: .dead :: .dead :: .dead :: .dead :: .dead :: .dead :: .dead :: .dead :: .dead :: .dead :: .dead :: .dead :: .dead :: .dead :: .dead :: .dead :: .dead :: .dead :: .dead :: .dead :: .dead :: .dead :: .dead :: .dead :: .dead :: .dead :: .dead :: .dead :: .dead :: .dead :: .dead :: .dead :: .dead :: .dead :: .dead :: .dead :: .dead :: .dead :: .dead :: .dead :: .dead :: .dead :: .dead :: .dead :: .dead :: .dead :: .dead :: .dead :: .dead :: .dead :: .dead :: .dead :: .dead :: .dead :: .dead :: .dead :: .dead :: .dead :: .dead :: .dead :: .dead :: .dead :: .dead :: .dead :: .dead :: .dead :: []), [O, R, C, RB (t.foldl nxt l), OB (t.foldl nxt l)], 0, none, false⟩)
  | [], i, l, h, _ => ev_step cfg (e6_19 (by rw [srows_len]; exact drop_nil h) hO hR hC (RB_lt _ _) rfl)
  | s :: t, i, l, h, hg => by
    obtain ⟨h1, h2, h3⟩ := drop_cons h
    have ih := copies19 (key := key) hO hR hC hK hmax t (i + 1) (nxt l s) h2 (good_nxt hg s)
    obtain ⟨ef, hd, hef⟩ := does_ef hg s (bx := [O, R, C, RB l, OB l, [I s.1, I s.2.1, I s.2.2]]) (lo := 4) (lw := 3) (by simp) (by simp) (by decide) rfl rfl
    refine ev_step cfg ?_
    rw [List.foldl_cons, ← ih]
    exact r6_19 hK (srows_get h1) (by rw [srows_len]; exact h3) hmax hef hd hO hR hC (RB_lt _ _) rfl

theorem good_fold : ∀ (t : List Stp3) {l : Bxs}, Good l → Good (t.foldl nxt l)
  | [], _, h => h
  | s :: t, _, h => good_fold t (good_nxt h s)

theorem postCopies_ev {K M : D} {ss ms : List Stp3} (key : Int) (hK : IsS 3 (srows ss) K) (hM : IsS 3 (srows ms) M) (hmax : (srows ss).length < 9223372036854775808) (hmax2 : (srows ms).length < 9223372036854775808) : ev cfg (.call 6 [.dat K, .dat M, I key] []) = some (.ret (B true) none) := by
  cases hb1 : decide (((srows ss).length : Int) > 100) with
  | true => exact ev_step cfg (f6_big hK hM (fun bx => one_ev) (by rw [hb1]; rfl))
  | false =>
    cases hb2 : decide (((srows ms).length : Int) > 100) with
    | true => exact ev_step cfg (f6_big hK hM (fun bx => one_ev) (by rw [hb1, hb2]; rfl))
    | false =>
      have hMc : M.oneC = true := hM.choose_spec.2.2
      have g := good_fold ss good_nil
      have l1 := copies6 (key := key) hK hMc hmax ss 0 [] rfl good_nil
      have l2 := copies12 (K := K) (key := key) (C := OB (ss.foldl nxt [])) rfl hM hmax2 ms 0 (ss.foldl nxt []) rfl g
      have l3 := copies19 (key := key) (O := OB (ms.foldl nxt (ss.foldl nxt []))) (R := RB (ms.foldl nxt (ss.foldl nxt []))) (C := OB (ss.foldl nxt [])) rfl (RB_lt _ _) rfl hK hmax ss 0 [] rfl good_nil
      have hk : sortedKeys (ents (ss.foldl nxt [])) = .dat .nil ∨ sortedKeys (ents (ss.foldl nxt [])) = .own true 1 (rowsOf (keysZ (ss.foldl nxt []))) := by
        by_cases hne : ss.foldl nxt [] = []
        · rw [hne]; exact .inl rfl
        · exact .inr (keys_cons hne)
      have hlen : (rowsOf (keysZ (ss.foldl nxt []))).length < 9223372036854775808 := by
        have h1 : (rowsOf (keysZ (ss.foldl nxt []))).length = (ss.foldl nxt []).length := by rw [← keys_len]; simp [rowsOf]
        have := g.len
        omega
      exact ev_step cfg (f6 hK hM (fun bx => one_ev) hb1 hb2 l1 l2 l3 (fun r => wait_ev (l := ss.foldl nxt []) (lo := 2) key (by simp) rfl) (fun r => wait_ev (l := ss.foldl nxt []) (lo := 4) key (by simp) rfl) hk (keys_in g) (ents_le g)
        (fun bx => ints_ev (zs := []) (isS_nil 1) (isS_nil 1) (by decide)) (fun bx => ints_ev (isS_sl 1 _) (isS_sl 1 _) hlen))

/-! ### PostNil -/
theorem postNil_ev (w k m : Int) : ev cfg (.call 7 [.agg [I w, I k, I m]] []) = some (.ret (B true) none) := by
  have k1 : decide (k ≥ 0) = !decide (k < 0) := by by_cases h : k < 0 <;> simp [h] <;> omega
  have k2 : decide (k ≤ 999) = !decide (k > 999) := by by_cases h : k > 999 <;> simp [h] <;> omega
  have k3 : decide (m ≥ 0) = !decide (m < 0) := by by_cases h : m < 0 <;> simp [h] <;> omega
  have k4 : decide (m ≤ 3) = !decide (m ≥ 4) := by by_cases h : m ≥ 4 <;> simp [h] <;> omega
  exact ev_step cfg (f7 rfl rfl k1 k2 k3 k4 (fun bx => ev_step cfg (f16_nil rfl)) (fun bx => ev_step cfg (f17_nil (ev_step cfg (f27_nil rfl)))) (fun bx => ev_step cfg (f18_nil (ev_step cfg (f27_nil rfl)))) (fun bx => ev_step cfg f11_nil) (fun bx => ev_step cfg f19_nil) (fun bx => one_ev))
end Go.Proofs.Ytgppmcpbphgnnaa
