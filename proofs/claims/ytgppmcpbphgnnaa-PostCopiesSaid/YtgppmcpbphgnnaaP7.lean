/- What an office's methods and the reference's answer, and that they agree. No condition. -/
import Derived.Test.YtgppmcpbphgnnaaP2
import Derived.Test.YtgppmcpbphgnnaaP4
import Derived.Test.YtgppmcpbphgnnaaP5
import Derived.Test.YtgppmcpbphgnnaaP6
set_option linter.unusedSimpArgs false
set_option linter.unusedVariables false
set_option linter.unusedSectionVars false
namespace Go.Proofs.Ytgppmcpbphgnnaa
open Go Go.Vx
set_option maxRecDepth 10000

def ok4 (n : N4) : Prop := (0 ≤ n.1 ∧ n.1 ≤ 3) ∧ (0 ≤ n.2.1 ∧ n.2.1 ≤ 3) ∧ (0 ≤ n.2.2.1 ∧ n.2.2.1 ≤ 3) ∧ (0 ≤ n.2.2.2 ∧ n.2.2.2 ≤ 3)
structure Good (l : Bxs) : Prop where
  len : l.length ≤ 8
  ok : ∀ p ∈ l, (0 ≤ p.1 ∧ p.1 ≤ 999) ∧ ok4 p.2
  nodup : (l.map (·.1)).Nodup

theorem good_nil : Good [] := ⟨by simp, by simp, by simp⟩
theorem get_mem {l : Bxs} {k : Int} {n : N4} : get l k = some n → (k, n) ∈ l := by
  induction l with
  | nil => intro h; cases h
  | cons p ps ih =>
    intro h
    rw [get] at h
    split at h
    · rename_i e; obtain rfl := Option.some.inj h; subst e; exact List.mem_cons_self ..
    · exact List.mem_cons_of_mem _ (ih h)
theorem get_none {l : Bxs} {k : Int} : get l k = none ↔ ∀ p ∈ l, p.1 ≠ k := by
  induction l with
  | nil => simp [get]
  | cons p ps ih =>
    rw [get]
    by_cases h : p.1 = k
    · simp [h]
    · simp [h, ih]
theorem idx_neg (l : Bxs) (k : Int) : decide (idx l k ≥ 0) = (get l k).isSome ∧ decide (idx l k < 0) = (get l k).isNone := by
  unfold idx
  rcases idx_spec k l 0 with ⟨h1, h2, _⟩ | ⟨a, n, b, _, h2, h3, _⟩
  · rw [h1, h2]; decide
  · rw [h2, h3]
    constructor
    · rw [Option.isSome_some]; exact decide_eq_true (by omega)
    · rw [Option.isNone_some]; exact decide_eq_false (by omega)

/-! ### the program and the reference agree -/
theorem open_same {l : Bxs} (h : Good l) (k : Int) : openR l k = openW l k := by
  have h8 := h.len
  unfold openR openW
  split
  · rfl
  · split
    · rfl
    · rename_i hg
      have hn : get l k = none := by cases hh : get l k <;> simp_all
      rcases idx_spec k l 0 with ⟨_, _, h3⟩ | ⟨a, n, b, _, _, h3, _⟩
      · by_cases hl : l.length = 8
        · simp [hl]
        · have e1 : ((l.length : Int) == 8) = false := by simp; omega
          have e2 : decide ((l.length : Int) > 7) = false := by simp; omega
          rw [e1, e2, h3]
      · rw [hn] at h3; cases h3
theorem close_same (l : Bxs) (k : Int) : closeR l k = closeW l k := rfl
theorem put_same (l : Bxs) (k m : Int) : changeR l k m 1 wrongPut = putW l k m := by
  unfold changeR putW
  have e : decide (m ≥ 4) = decide (m > 3) := decide_eq_decide.2 (by omega)
  rw [e]
  split
  · rfl
  · cases get l k with
    | none => rfl
    | some n =>
      simp only
      by_cases h : nat4 n m > 2
      · have h1 : wrongPut (nat4 n m) = 5 := if_pos (decide_eq_true (by omega))
        rw [h1]; simp [h]
      · have h1 : wrongPut (nat4 n m) = 0 := if_neg (by simp; omega)
        rw [h1]; simp [h]; rfl
theorem take_same (l : Bxs) (k m : Int) : changeR l k m (-1) wrongTake = takeW l k m := by
  unfold changeR takeW
  have e : decide (m ≥ 4) = decide (m > 3) := decide_eq_decide.2 (by omega)
  rw [e]
  split
  · rfl
  · cases get l k with
    | none => rfl
    | some n =>
      simp only
      by_cases h : nat4 n m = 0
      · have h1 : wrongTake (nat4 n m) = 6 := if_pos (by simp [h])
        rw [h1]; simp [h]
      · have h1 : wrongTake (nat4 n m) = 0 := if_neg (by simp [h])
        rw [h1, Int.sub_eq_add_neg]; simp [h]; rfl

/-! ### what the methods answer -/
section
variable {bx : List Box} {lo lw : Nat} {l : Bxs} {k m w : Int}

theorem ev16 (hl : lo < bx.length) (hb : bx[lo]? = some (OB l)) : ev cfg (.call 16 [.ptr lo 0, I k] bx) = some (.ret (I (openR l k).1) (oO bx lo (openR l k).2)) := ev_step cfg (f16 hl hb)
theorem ev19 (hl : lo < bx.length) (hb : bx[lo]? = some (OB l)) : ev cfg (.call 19 [.ptr lo 0, I k] bx) = some (.ret (I (closeR l k).1) (oO bx lo (closeR l k).2)) := ev_step cfg (f19 hl hb)
theorem ev17 (hl : lo < bx.length) (hb : bx[lo]? = some (OB l)) : ev cfg (.call 17 [.ptr lo 0, I k, I m] bx) = some (.ret (I (changeR l k m 1 wrongPut).1) (oO bx lo (changeR l k m 1 wrongPut).2)) :=
  ev_step cfg (f17 hl (ev_step cfg (f27 hl hb fun n bx => ev_step cfg f28)))
theorem ev18 (hl : lo < bx.length) (hb : bx[lo]? = some (OB l)) : ev cfg (.call 18 [.ptr lo 0, I k, I m] bx) = some (.ret (I (changeR l k m (-1) wrongTake).1) (oO bx lo (changeR l k m (-1) wrongTake).2)) :=
  ev_step cfg (f18 hl (ev_step cfg (f27 hl hb fun n bx => ev_step cfg f29)))
theorem ev11 (hl : lo < bx.length) (hb : bx[lo]? = some (OB l)) :
    ev cfg (.call 11 [.ptr lo 0, I k] bx) = some (.ret (.tup [.agg ((match get l k with | some n => row n | none => row (0, 0, 0, 0)).map .dat), B (get l k).isSome]) none) := ev_step cfg (f11 hl hb)

theorem ev20 (hg : Good l) (hl : lo < bx.length) (hb : bx[lo]? = some (RB l)) : ev cfg (.call 20 [.ptr lo 0, I k] bx) = some (.ret (I (openW l k).1) (oR bx lo (openW l k).2)) := by
  have hat := at_ev (k := k) hl hb (by have := hg.len; omega)
  have hi := (idx_neg l k).1
  cases hw : openW l k with
  | mk e o =>
    cases o with
    | none => exact ev_step cfg (f20_no hl hw hb hat hi)
    | some l' =>
      have he : e = 0 := by
        unfold openW at hw
        split at hw
        · cases hw
        · split at hw
          · cases hw
          · split at hw <;> cases hw
            rfl
      subst he
      exact ev_step cfg (f20_yes hl hw hb hat hi)

theorem ev21 (hg : Good l) (hl : lo < bx.length) (hb : bx[lo]? = some (RB l)) : ev cfg (.call 21 [.ptr lo 0, I k] bx) = some (.ret (I (closeW l k).1) (oR bx lo (closeW l k).2)) := by
  have hat := at_ev (k := k) hl hb (by have := hg.len; omega)
  have hi := (idx_neg l k).2
  unfold closeW
  rcases idx_spec k l 0 with ⟨h1, h2, h3⟩ | ⟨a, n, b, h1, h2, h3, h4, h5⟩
  · rw [h1] at hi ⊢
    exact ev_step cfg (f21_no hl hat hi)
  · rw [h3, if_pos (by rfl), h5]
    have hne : l ≠ [] := by rw [h1]; simp
    rw [RB_ne hne] at hb
    unfold idx at hat
    rw [h2, Nat.zero_add] at hat
    have hlen : l.length = a.length + (b.length + 1) := by rw [h1]; simp
    have := f21_core (A := rows a) (Q := rows b) hl hb (rows_len l) (by omega) (by have := hg.len; omega) (by rw [h1]; simp [rows]) (by rw [h1, rows_app, List.drop_append, List.drop_of_length_le (by simp [rows])]; simp [rows]) hat
    rw [← rows_app, RL_rows] at this
    exact ev_step cfg this

theorem set4_eq (n : N4) (m v : Int) : set4' n m v = set4 n m v := rfl
theorem ev22 (hg : Good l) (hl : lo < bx.length) (hb : bx[lo]? = some (RB l)) : ev cfg (.call 22 [.ptr lo 0, I k, I m] bx) = some (.ret (I (putW l k m).1) (oR bx lo (putW l k m).2)) := by
  have hat := at_ev (k := k) hl hb (by have := hg.len; omega)
  have hi := (idx_neg l k).2
  unfold putW
  cases hm : (decide (m < 0) || decide (m > 3)) with
  | true => exact ev_step cfg (f22_arg hm)
  | false =>
    simp only [Bool.false_eq_true, if_false]
    rcases idx_spec k l 0 with ⟨h1, h2, h3⟩ | ⟨a, n, b, h1, h2, h3, h4, h5⟩
    · rw [h1] at hi ⊢
      exact ev_step cfg (f22_none hm hl hat hi)
    · have hne : l ≠ [] := by rw [h1]; simp
      rw [RB_ne hne] at hb
      unfold idx at hat
      rw [h2, Nat.zero_add] at hat
      rw [h3]
      simp only
      have hlt : (a.length < (rows l).length) = True := by rw [h1]; simp [rows]
      have hget : (rows l)[a.length]? = some (dI k :: row n) := by rw [h1]; simp [rows]
      have := ev_step cfg (f22_some (b := decide (nat4 n m > 2)) hm hl hb hget hlt hat rfl)
      rw [this]
      cases hc : decide (nat4 n m > 2) with
      | true => rfl
      | false =>
        simp only [Bool.false_eq_true, if_false, oR, h4]
        rw [RB_app]
        have : (rows l).set a.length (dI k :: row (set4' n m (IntKind.wrap .i64 (nat4 n m + 1)))) = rows (a ++ (k, set4' n m (IntKind.wrap .i64 (nat4 n m + 1))) :: b) := by rw [h1]; simp [rows]
        rw [this]
theorem ev23 (hg : Good l) (hl : lo < bx.length) (hb : bx[lo]? = some (RB l)) : ev cfg (.call 23 [.ptr lo 0, I k, I m] bx) = some (.ret (I (takeW l k m).1) (oR bx lo (takeW l k m).2)) := by
  have hat := at_ev (k := k) hl hb (by have := hg.len; omega)
  have hi := (idx_neg l k).2
  unfold takeW
  cases hm : (decide (m < 0) || decide (m > 3)) with
  | true => exact ev_step cfg (f23_arg hm)
  | false =>
    simp only [Bool.false_eq_true, if_false]
    rcases idx_spec k l 0 with ⟨h1, h2, h3⟩ | ⟨a, n, b, h1, h2, h3, h4, h5⟩
    · rw [h1] at hi ⊢
      exact ev_step cfg (f23_none hm hl hat hi)
    · have hne : l ≠ [] := by rw [h1]; simp
      rw [RB_ne hne] at hb
      unfold idx at hat
      rw [h2, Nat.zero_add] at hat
      rw [h3]
      simp only
      have hlt : (a.length < (rows l).length) = True := by rw [h1]; simp [rows]
      have hget : (rows l)[a.length]? = some (dI k :: row n) := by rw [h1]; simp [rows]
      have := ev_step cfg (f23_some (b := (nat4 n m == 0)) hm hl hb hget hlt hat rfl)
      rw [this]
      cases hc : (nat4 n m == 0) with
      | true => rfl
      | false =>
        simp only [Bool.false_eq_true, if_false, oR, h4]
        rw [RB_app]
        have : (rows l).set a.length (dI k :: row (set4' n m (IntKind.wrap .i64 (nat4 n m - 1)))) = rows (a ++ (k, set4' n m (IntKind.wrap .i64 (nat4 n m - 1))) :: b) := by rw [h1]; simp [rows]
        rw [this]

/-- a step of the law -/
def step (l : Bxs) (w k m : Int) : Option Bxs :=
  if w = 0 ∨ w = 1 then (openW l k).2 else if w = 2 then (closeW l k).2 else if w = 3 ∨ w = 4 then (putW l k m).2 else if w = 5 then (takeW l k m).2 else none
def oD (bx : List Box) (lo lw : Nat) : Option Bxs → Option Eff
  | none => none
  | some l => some ⟨(bx.set lo (OB l)).set lw (RB l), min lo lw, false⟩

theorem does_ev (hg : Good l) (hlo : lo < bx.length) (hlw : lw < bx.length) (hne : lo ≠ lw) (hO : bx[lo]? = some (OB l)) (hR : bx[lw]? = some (RB l)) :
    ev cfg (.call 10 [.ptr lo 0, .ptr lw 0, .agg [I w, I k, I m]] bx) = some (.ret (B true) (oD bx lo lw (step l w k m))) := by
  have hO' : ∀ c : Box, (bx ++ [c])[lo]? = some (OB l) := fun c => by rw [List.getElem?_append_left hlo]; exact hO
  have hR' : ∀ c : Box, (bx ++ [c])[lw]? = some (RB l) := fun c => by rw [List.getElem?_append_left hlw]; exact hR
  have hR2 : ∀ (u c : Box), (bx.set lo u ++ [c])[lw]? = some (RB l) := fun u c => by
    rw [List.getElem?_append_left (by simpa using hlw), List.getElem?_set, if_neg hne]; exact hR
  have l1 : ∀ c : Box, lo < (bx ++ [c]).length := fun c => by simp; omega
  have l2 : ∀ c : Box, lw < (bx ++ [c]).length := fun c => by simp; omega
  have l3 : ∀ u c : Box, lw < (bx.set lo u ++ [c]).length := fun u c => by simp; omega
  have s1 : ∀ u c : Box, (bx ++ [c]).set lo u = bx.set lo u ++ [c] := fun u c => set_old hlo _ _
  have s2 : ∀ u v c : Box, (bx.set lo u ++ [c]).set lw v = (bx.set lo u).set lw v ++ [c] := fun u v c => set_old (by simpa using hlw) _ _
  unfold step
  by_cases w0 : w = 0
  · subst w0
    rw [if_pos (.inl rfl)]
    have e1 := ev16 (k := k) (l1 [I 0, I k, I m]) (hO' [I 0, I k, I m])
    have e2 := ev20 (k := k) hg (l2 [I 0, I k, I m]) (hR' [I 0, I k, I m])
    have e3 := fun u => ev20 (k := k) hg (l3 u [I 0, I k, I m]) (hR2 u [I 0, I k, I m])
    rw [open_same hg] at e1
    cases hw : openW l k with
    | mk e o =>
      rw [hw] at e1 e2 e3
      cases o with
      | none => exact ev_step cfg (f10_open0_no hlo hlw e1 e2)
      | some l' =>
        simp only [oO, oR, s1, s2] at e1 e3
        exact ev_step cfg (f10_open0_yes hlo hlw e1 (e3 _))
  by_cases w1 : w = 1
  · subst w1
    rw [if_pos (.inr rfl)]
    have e1 := ev16 (k := k) (l1 [I 1, I k, I m]) (hO' [I 1, I k, I m])
    have e2 := ev20 (k := k) hg (l2 [I 1, I k, I m]) (hR' [I 1, I k, I m])
    have e3 := fun u => ev20 (k := k) hg (l3 u [I 1, I k, I m]) (hR2 u [I 1, I k, I m])
    rw [open_same hg] at e1
    cases hw : openW l k with
    | mk e o =>
      rw [hw] at e1 e2 e3
      cases o with
      | none => exact ev_step cfg (f10_open1_no hlo hlw e1 e2)
      | some l' =>
        simp only [oO, oR, s1, s2] at e1 e3
        exact ev_step cfg (f10_open1_yes hlo hlw e1 (e3 _))
  rw [if_neg (by omega)]
  by_cases w2 : w = 2
  · subst w2
    rw [if_pos rfl]
    have e1 := ev19 (k := k) (l1 [I 2, I k, I m]) (hO' [I 2, I k, I m])
    have e2 := ev21 (k := k) hg (l2 [I 2, I k, I m]) (hR' [I 2, I k, I m])
    have e3 := fun u => ev21 (k := k) hg (l3 u [I 2, I k, I m]) (hR2 u [I 2, I k, I m])
    rw [close_same] at e1
    cases hw : closeW l k with
    | mk e o =>
      rw [hw] at e1 e2 e3
      cases o with
      | none => exact ev_step cfg (f10_close2_no hlo hlw e1 e2)
      | some l' =>
        simp only [oO, oR, s1, s2] at e1 e3
        exact ev_step cfg (f10_close2_yes hlo hlw e1 (e3 _))
  rw [if_neg w2]
  by_cases w3 : w = 3
  · subst w3
    rw [if_pos (.inl rfl)]
    have e1 := ev17 (k := k) (m := m) (l1 [I 3, I k, I m]) (hO' [I 3, I k, I m])
    have e2 := ev22 (k := k) (m := m) hg (l2 [I 3, I k, I m]) (hR' [I 3, I k, I m])
    have e3 := fun u => ev22 (k := k) (m := m) hg (l3 u [I 3, I k, I m]) (hR2 u [I 3, I k, I m])
    rw [put_same] at e1
    cases hw : putW l k m with
    | mk e o =>
      rw [hw] at e1 e2 e3
      cases o with
      | none => exact ev_step cfg (f10_put3_no hlo hlw e1 e2)
      | some l' =>
        simp only [oO, oR, s1, s2] at e1 e3
        exact ev_step cfg (f10_put3_yes hlo hlw e1 (e3 _))
  by_cases w4 : w = 4
  · subst w4
    rw [if_pos (.inr rfl)]
    have e1 := ev17 (k := k) (m := m) (l1 [I 4, I k, I m]) (hO' [I 4, I k, I m])
    have e2 := ev22 (k := k) (m := m) hg (l2 [I 4, I k, I m]) (hR' [I 4, I k, I m])
    have e3 := fun u => ev22 (k := k) (m := m) hg (l3 u [I 4, I k, I m]) (hR2 u [I 4, I k, I m])
    rw [put_same] at e1
    cases hw : putW l k m with
    | mk e o =>
      rw [hw] at e1 e2 e3
      cases o with
      | none => exact ev_step cfg (f10_put4_no hlo hlw e1 e2)
      | some l' =>
        simp only [oO, oR, s1, s2] at e1 e3
        exact ev_step cfg (f10_put4_yes hlo hlw e1 (e3 _))
  rw [if_neg (by omega)]
  by_cases w5 : w = 5
  · subst w5
    rw [if_pos rfl]
    have e1 := ev18 (k := k) (m := m) (l1 [I 5, I k, I m]) (hO' [I 5, I k, I m])
    have e2 := ev23 (k := k) (m := m) hg (l2 [I 5, I k, I m]) (hR' [I 5, I k, I m])
    have e3 := fun u => ev23 (k := k) (m := m) hg (l3 u [I 5, I k, I m]) (hR2 u [I 5, I k, I m])
    rw [take_same] at e1
    cases hw : takeW l k m with
    | mk e o =>
      rw [hw] at e1 e2 e3
      cases o with
      | none => exact ev_step cfg (f10_take5_no hlo hlw e1 e2)
      | some l' =>
        simp only [oO, oR, s1, s2] at e1 e3
        exact ev_step cfg (f10_take5_yes hlo hlw e1 (e3 _))
  rw [if_neg w5]
  exact ev_step cfg (f10_else (by simp [w0]) (by simp [w1]) (by simp [w2]) (by simp [w3]) (by simp [w4]) (by simp [w5]))

theorem one_ev : ev cfg (.call 9 [] bx) = some (.ret (B true) none) := by
  have l0 : ∀ (bx : List Box) (c : Box), bx.length < (bx ++ [c]).length := fun bx c => by simp
  have g0 : ∀ (bx : List Box) (c : Box), (bx ++ [c])[bx.length]? = some c := fun bx c => by simp
  have s0 : ∀ (bx : List Box) (c u : Box), (bx ++ [c]).set bx.length u = bx ++ [u] := fun bx c u => by rw [List.set_append_right _ _ (Nat.le_refl _)]; simp
  refine ev_step cfg (f9 (o1 := OB [(5, 0, 0, 0, 0)]) (o2 := OB [(5, 0, 1, 0, 0)]) (fun bx => ?_) (fun bx => ?_) (fun bx => ?_) (fun bx => ?_) (fun bx => ?_) (fun bx => ?_))
  · have := ev16 (l := []) (k := 5) (l0 bx _) (g0 bx (OB []))
    simp only [oO, openR, s0] at this
    exact this
  · have := ev17 (l := [(5, 0, 0, 0, 0)]) (k := 5) (m := 1) (l0 bx _) (g0 bx (OB [(5, 0, 0, 0, 0)]))
    have e : changeR [(5, 0, 0, 0, 0)] 5 1 1 wrongPut = (0, some [(5, 0, 1, 0, 0)]) := rfl
    rw [e] at this
    simp only [oO, s0] at this
    exact this
  · have := ev18 (l := [(5, 0, 1, 0, 0)]) (k := 6) (m := 1) (l0 bx _) (g0 bx (OB [(5, 0, 1, 0, 0)]))
    exact this
  · have := ev18 (l := [(5, 0, 1, 0, 0)]) (k := 5) (m := 1) (l0 bx _) (g0 bx (OB [(5, 0, 1, 0, 0)]))
    have e : changeR [(5, 0, 1, 0, 0)] 5 1 (-1) wrongTake = (0, some [(5, 0, 0, 0, 0)]) := rfl
    rw [e] at this
    simp only [oO, s0] at this
    exact this
  · exact ev11 (l := [(5, 0, 0, 0, 0)]) (k := 5) (l0 bx _) (g0 bx (OB [(5, 0, 0, 0, 0)]))
  · exact ints_ev (zs := [5]) (isS_sl 1 [[dI 5]]) (isS_sl 1 [[dI 5]]) (by decide)
end
end Go.Proofs.Ytgppmcpbphgnnaa
