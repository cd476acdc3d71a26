/- What the laws answer: PostSteps. No condition. -/
import Derived.Test.YtgppmcpbphgnnaaP8
import Derived.Test.YtgppmcpbphgnnaaP9
import Derived.Test.YtgppmcpbphgnnaaP14
set_option linter.unusedSimpArgs false
set_option linter.unusedVariables false
set_option linter.unusedSectionVars false
namespace Go.Proofs.Ytgppmcpbphgnnaa
open Go Go.Vx
set_option maxRecDepth 10000

abbrev Stp3 := Int × Int × Int
def srow (s : Stp3) : List D := [dI s.1, dI s.2.1, dI s.2.2]
def srows (ss : List Stp3) : List (List D) := ss.map srow
theorem srows_get {ss : List Stp3} {i : Nat} {s : Stp3} (h : ss[i]? = some s) : (srows ss)[i]? = some [dI s.1, dI s.2.1, dI s.2.2] := by simp [srows, h, srow]
theorem srows_len (ss : List Stp3) : (srows ss).length = ss.length := by simp [srows]

theorem does3 {l : Bxs} (hg : Good l) (s : Stp3) {bx : List Box} {lo lw : Nat} (hlo : lo < bx.length) (hlw : lw < bx.length) (hne : lo ≠ lw) (hO : bx[lo]? = some (OB l)) (hR : bx[lw]? = some (RB l)) :
    (nxt l s = l ∧ ev cfg (.call 10 [.ptr lo 0, .ptr lw 0, .agg [I s.1, I s.2.1, I s.2.2]] bx) = some (.ret (B true) none)) ∨
      ev cfg (.call 10 [.ptr lo 0, .ptr lw 0, .agg [I s.1, I s.2.1, I s.2.2]] bx) = some (.ret (B true) (some ⟨(bx.set lo (OB (nxt l s))).set lw (RB (nxt l s)), min lo lw, false⟩)) := by
  have h := does_ev (w := s.1) (k := s.2.1) (m := s.2.2) hg hlo hlw hne hO hR
  unfold nxt
  cases hs : step l s.1 s.2.1 s.2.2 with
  | none => rw [hs] at h; exact .inl ⟨rfl, h⟩
  | some l' => rw [hs] at h; exact .inr h

theorem wait_ev {l : Bxs} {bx : List Box} {lo : Nat} (k : Int) (hl : lo < bx.length) (hb : bx[lo]? = some (OB l)) :
    ev cfg (.call 11 [.ptr lo 0, I k] bx) = some (.ret (.tup [.agg (((get l k).getD (0, 0, 0, 0) |> row).map .dat), B (get l k).isSome]) none) := by
  have := ev11 (k := k) hl hb
  cases hg : get l k with
  | none => rw [hg] at this; exact this
  | some n => rw [hg] at this; exact this

theorem keys_loop {K : D} {n i : Nat} {key : Int} {l : Bxs} (hg : Good l) {s u : Box} (hs : s.all (cellLt 4) = true) (hu : u.all (cellLt 4) = true) : ∀ (t : List Int) (j : Nat), (keysZ l).drop j = t →
    ev cfg (.loop 3 18 ⟨(.dead :: I key :: .dead :: .dead :: .dead :: .ptr 0 0 :: .ptr 1 0 :: .dead :: .dead :: .dead :: .dead :: .dead :: .own true 1 (rowsOf (keysZ l)) :: .dead :: .dead :: .dead :: .dead :: .dead :: .dead :: .dead :: .dead :: .dead :: .dead :: .dead :: .dead :: .dead :: .dead :: .dead :: .dead :: .dead :: .dat K :: I n :: I i :: .dead :: .dead :: .dead :: .dead :: .dead :: .dead :: .dead :: .dead :: .dead :: .dead :: .dead :: .dead :: .dead :: .dead :: .dead :: .dead :: .dead :: .dead :: .dead :: .dead :: .dead :: .dead :: .dead :: .dead :: .dead :: .dead :: .dead :: .dead :: .dead :: .dead :: .dead :: .dead :: .dead :: .dead :: .dead :: .dead :: .dead :: .dead :: .dead :: .dead :: .dead :: .dead :: .dead :: .dead :: .dead :: .dead :: .dead :: .dead :: .dead :: .dead :: .dead :: .dead :: .dead :: .dead :: .dead :: .alias (.tmp 12) :: I (keysZ l).length :: I j :: .dead :: .dead :: .dead :: .dead :: .dead :: .dead :: .dead :: .dead :: .dead :: .dead :: .dead :: .dead :: .dead :: .dead :: .dead :: .dead :: .dead :: .dead :: .dead :: .dead :: .dead :: .dead :: .dead :: .dead :: []), [OB l, RB l, s, u], 0, none, false⟩) =
      some (.loop (.exit 2) ⟨(.dead :: I key :: .dead :: .dead :: .dead :: .ptr 0 0 :: .ptr 1 0 :: .dead :: .dead :: .dead :: .dead :: .dead :: .dead :: .dead :: .dead :: .dead :: .dead :: .dead :: .dead :: .dead :: .dead :: .dead :: .dead :: .dead :: .dead :: .dead :: .dead :: .dead :: .dead :: .dead :: .dat K :: I n :: I i :: .dead :: .dead :: .dead :: .dead :: .dead :: .dead :: .dead :: .dead :: .dead :: .dead :: .dead :: .dead :: .dead :: .dead :: .dead :: .dead :: .dead :: .dead :: .dead :: .dead :: .dead :: .dead :: .dead :: .dead :: .dead :: .dead :: .dead :: .dead :: .dead :: .dead :: .dead :: .dead :: .dead :: .dead :: .dead :: .dead :: .dead :: .dead :: .dead :: .dead :: .dead :: .dead :: .dead :: .dead :: .dead :: .dead :: .dead :: .dead :: .dead :: .dead :: .dead :: .dead :: .dead :: .dead :: .dead :: .dead :: .dead :: .dead :: .dead :: .dead :: .dead :: .dead :: .dead :: .dead :: .dead :: .dead :: .dead :: .dead :: .dead :: .dead :: .dead :: .dead :: .dead :: .dead :: .dead :: .dead :: .dead :: .dead :: .dead :: .dead :: .dead :: .dead :: []), [OB l, RB l, s, u], 0, none, false⟩)
  | [], j, h => ev_step cfg (e3_18 (zs := keysZ l) hs hu (.inr ⟨rfl, rfl⟩) (drop_nil h))
  | x :: xs, j, h => by
    obtain ⟨h1, h2, h3⟩ := drop_cons h
    have hx : x ∈ keysZ l := List.mem_of_getElem? h1
    have hsome : (get l x).isSome = true := by
      cases hq : get l x with
      | some _ => rfl
      | none =>
        obtain ⟨p, hp, e⟩ := List.mem_map.1 ((keys_mem l x).1 hx)
        exact absurd e (get_none.1 hq p hp)
    have hneg : decide (idx l x < 0) = false := by
      rw [(idx_neg l x).2]
      cases hq : get l x with
      | some _ => rfl
      | none => rw [hq] at hsome; cases hsome
    refine ev_step cfg ?_
    rw [r3_18 hs hu h1 h3 (by rw [keys_len]; have := hg.len; omega) (at_ev (l := l) (k := x) (bx := [OB l, RB l, s, u]) (lo := 1) (by simp) rfl (by have := hg.len; omega)) hneg (fun z hz hzz => decide_eq_false (by
      have hlt : j - 1 < (keysZ l).length := by omega
      have := (List.pairwise_iff_getElem.1 (keys_sorted hg)) (j - 1) j hlt h3 (by omega)
      rw [List.getElem?_eq_getElem hlt] at hzz
      rw [List.getElem?_eq_getElem h3] at h1
      obtain rfl := Option.some.inj hzz
      obtain rfl := Option.some.inj h1
      omega))]
    exact keys_loop hg hs hu xs (j + 1) h2

theorem steps_loop {K : D} {ss : List Stp3} {key : Int} (hK : IsS 3 (srows ss) K) (hmax : (srows ss).length < 9223372036854775808) : ∀ (t : List Stp3) (i : Nat) (l : Bxs), ss.drop i = t → Good l →
    ∃ l', ev cfg (.loop 3 6 ⟨(.dead :: I key :: .dead :: .dead :: .dead :: .ptr 0 0 :: .ptr 1 0 :: .dead :: .dead :: .dead :: .dead :: .dead :: .dead :: .dead :: .dead :: .dead :: .dead :: .dead :: .dead :: .dead :: .dead :: .dead :: .dead :: .dead :: .dead :: .dead :: .dead :: .dead :: .dead :: .dead :: .dat K :: I (srows ss).length :: I i :: .dead :: .dead :: .dead :: .dead :: .dead :: .dead :: .dead :: .dead :: .dead :: .dead :: .dead :: .dead :: .dead :: .dead :: .dead :: .dead :: .dead :: .dead :: .dead :: .dead :: .dead :: .dead :: .dead :: .dead :: .dead :: .dead :: .dead :: .dead :: .dead :: .dead :: .dead :: .dead :: .dead :: .dead :: .dead :: .dead :: .dead :: .dead :: .dead :: .dead :: .dead :: .dead :: .dead :: .dead :: .dead :: .dead :: .dead :: .dead :: .dead :: .dead :: .dead :: .dead :: .dead :: .dead :: .dead :: .dead :: .dead :: .dead :: .dead :: .dead :: .dead :: .dead :: .dead :: .dead :: .dead :: .dead :: .dead :: .dead :: .dead :: .dead :: .dead :: .dead :: .dead :: .dead :: .dead :: .dead :: .dead :: .dead :: .dead :: .dead :: .dead :: .dead :: []), [OB l, RB l], 0, none, false⟩) = some (.loop (.exit 0) ⟨(.dead :: .dead :: .dead :: .dead :: .dead :: .dead :: .dead :: .dead :: .dead :: .dead :: .dead :: .dead :: .dead :: .dead :: .dead :: .dead :: .dead :: .dead :: .dead :: .dead :: .dead :: .dead :: .dead :: .dead :: .dead :: .dead :: .dead :: .dead :: .dead :: .dead :: .dead :: .dead :: .dead :: .dead :: .dead :: .dead :: .dead :: .dead :: .dead :: .dead :: .dead :: .dead :: .dead :: .dead :: .dead :: .dead :: .dead :: .dead :: .dead :: .dead :: .dead :: .dead :: .dead :: .dead :: .dead :: .dead :: .dead :: .dead :: .dead :: .dead :: .dead :: .dead :: .dead :: .dead :: .dead :: .dead :: .dead :: .dead :: .dead :: .dead :: .dead :: .dead :: .dead :: .dead :: .dead :: .dead :: .dead :: .dead :: .dead :: .dead :: .dead :: .dead :: .dead :: .dead :: .dead :: .dead :: .dead :: .dead :: .dead :: .dead :: .dead :: .dead :: .dead :: .dead :: .dead :: .dead :: .dead :: .dead :: .dead :: .dead :: .dead :: .dead :: .dead :: .dead :: .dead :: .dead :: .dead :: .dead :: .dead :: .dead :: .dead :: .dead :: .dead :: .dead :: .dead :: []), [OB l', RB l'], 0, none, false⟩)
  | [], i, l, h, _ => ⟨l, ev_step cfg (e3_6 (by rw [srows_len]; exact drop_nil h))⟩
  | s :: t, i, l, h, hg => by
    obtain ⟨h1, h2, h3⟩ := drop_cons h
    have hget := srows_get h1
    have hlt : i < (srows ss).length := by rw [srows_len]; exact h3
    have hg1 := good_nxt hg s
    obtain ⟨l', hl'⟩ := steps_loop (key := key) hK hmax t (i + 1) (nxt l s) h2 hg1
    refine ⟨l', ev_step cfg ?_⟩
    rw [← hl']
    have hd := does3 hg s (bx := [OB l, RB l, [I s.1, I s.2.1, I s.2.2]]) (lo := 0) (lw := 1) (by simp) (by simp) (by decide) rfl rfl
    generalize nxt l s = l1 at hd hg1 ⊢
    have hat : ∀ r, ev cfg (.call 12 [.ptr 1 0, I key] (OB l1 :: RB l1 :: r)) = some (.ret (I (idx l1 key)) none) := fun r => at_ev (lo := 1) (by simp) rfl (by have := hg1.len; omega)
    have hw : ∀ r, ev cfg (.call 11 [.ptr 0 0, I key] (OB l1 :: RB l1 :: r)) = _ := fun r => wait_ev (l := l1) (lo := 0) key (by simp) rfl
    have hu : ∀ n : N4, ([I n.1, I n.2.1, I n.2.2.1, I n.2.2.2] : Box).all (cellLt 4) = true := fun n => rfl
    have hef : ∃ ef, ev cfg (.call 10 [.ptr 0 0, .ptr 1 0, .agg [I s.1, I s.2.1, I s.2.2]] [OB l, RB l, [I s.1, I s.2.1, I s.2.2]]) = some (.ret (B true) ef) ∧ ((ef = none ∧ OB l = OB l1 ∧ RB l = RB l1) ∨ ef = some ⟨[OB l1, RB l1, [I s.1, I s.2.1, I s.2.2]], 0, false⟩) := by
      rcases hd with ⟨rfl, hd⟩ | hd
      · exact ⟨_, hd, .inl ⟨rfl, rfl, rfl⟩⟩
      · exact ⟨_, hd, .inr rfl⟩
    obtain ⟨ef, hdoes, hef⟩ := hef
    by_cases hne : l1 = []
    · subst hne
      have hi : idx [] key = -1 := rfl
      rw [hi] at hat
      exact r3_nil hK hget hlt hmax hef hdoes hw hat (ev_step cfg (e3_18 (zs := []) (l' := []) rfl rfl (.inl ⟨rfl, rfl⟩) (Nat.le_refl 0)))
    · have hRB := RB_ne hne
      have hlen : (rowsOf (keysZ l1)).length = (keysZ l1).length := by simp [rowsOf]
      have e3 : (((rowsOf (keysZ l1)).length : Int) != ((rows l1).length : Int)) = false := by rw [hlen, keys_len, rows_len]; simp
      cases hq : get l1 key with
      | none =>
        have hi : idx l1 key = -1 := by
          unfold idx
          rcases idx_spec key l1 0 with ⟨_, h, _⟩ | ⟨_, _, _, _, _, h, _⟩
          · exact h
          · rw [hq] at h; cases h
        rw [hi] at hat
        have hloop := keys_loop (K := K) (n := (srows ss).length) (i := i) (key := key) hg1 (s := [I s.1, I s.2.1, I s.2.2]) (u := [I 0, I 0, I 0, I 0]) rfl rfl (keysZ l1) 0 rfl
        rw [hRB] at hef hat hw hloop ⊢
        rw [hq] at hw
        rw [← hlen] at hloop
        exact r3_out (zs := keysZ l1) hK hget hlt hmax hef hdoes hw hat (keys_cons hne) e3 (keys_in hg1) (ents_le hg1) hloop
      | some nn =>
        have hi : ∃ c : Nat, idx l1 key = (c : Int) ∧ (rows l1)[c]? = some [dI key, dI nn.1, dI nn.2.1, dI nn.2.2.1, dI nn.2.2.2] ∧ c < (rows l1).length := by
          unfold idx
          rcases idx_spec key l1 0 with ⟨h, _, _⟩ | ⟨a, n, b, h, h', h'', _⟩
          · rw [hq] at h; cases h
          · rw [hq] at h''
            obtain rfl := Option.some.inj h''
            exact ⟨a.length, by rw [h', Nat.zero_add], by rw [h]; simp [rows, row], by rw [h]; simp [rows]⟩
        obtain ⟨c, hi1, hi2, hi3⟩ := hi
        rw [hi1] at hat
        have hloop := keys_loop (K := K) (n := (srows ss).length) (i := i) (key := key) hg1 (s := [I s.1, I s.2.1, I s.2.2]) (u := [I nn.1, I nn.2.1, I nn.2.2.1, I nn.2.2.2]) rfl rfl (keysZ l1) 0 rfl
        rw [hRB] at hef hat hw hloop ⊢
        rw [hq] at hw
        rw [← hlen] at hloop
        exact r3_in (zs := keysZ l1) hK hget hlt hmax hef hdoes hw hat hi2 (eq_true hi3) (keys_cons hne) e3 (keys_in hg1) (ents_le hg1) hloop

theorem postSteps_ev {K : D} {ss : List Stp3} (key : Int) (hK : IsS 3 (srows ss) K) (hmax : (srows ss).length < 9223372036854775808) : ev cfg (.call 3 [.dat K, I key] []) = some (.ret (B true) none) := by
  cases hb : decide (((srows ss).length : Int) > 200) with
  | true => exact ev_step cfg (f3_big hK (fun bx => one_ev) hb)
  | false =>
    obtain ⟨l', h⟩ := steps_loop (key := key) hK hmax ss 0 [] rfl good_nil
    exact ev_step cfg (f3 hK (fun bx => one_ev) hb h)
end Go.Proofs.Ytgppmcpbphgnnaa
