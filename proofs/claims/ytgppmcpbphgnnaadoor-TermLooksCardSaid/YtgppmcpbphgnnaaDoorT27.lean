/- The laws of terms answer true. No condition. -/
import Derived.Test.YtgppmcpbphgnnaaDoorT25
import Derived.Test.YtgppmcpbphgnnaaDoorT26
set_option linter.unusedSimpArgs false
set_option linter.unusedVariables false
set_option linter.unusedSectionVars false
namespace Go.Proofs.YtgppmcpbphgnnaaDoor
open Go Go.Vx
set_option maxRecDepth 10000

def exprT : Trm := .mk 11 0 [.mk 2 0 [], .mk 5 0 [.mk 1 1 [], .mk 2 3 []]]
def exprL : List UInt8 := [40, 108, 116, 32, 36, 48, 32, 40, 97, 100, 100, 32, 49, 32, 36, 51, 41, 41]

theorem expr_shap : shapT exprT = true := by simp [exprT, shapT, shapT.go, nodeOk, okOp, arity]
theorem expr_dep : depT exprT = 3 := by simp [exprT, depT, depT.go]
theorem expr_size : sizeT exprT = 5 := by simp [exprT, sizeT, sizeT.go]
theorem expr_typ : typT exprT = 2 := by simp [exprT, typT, typT.go, tyOf, truth, asked]
theorem dig_one {n : Nat} (h : n < 10) : digL n = [UInt8.ofNat (48 + n)] := by rw [digL, if_pos h]
theorem expr_text : textT exprT = exprL := by
  simp [exprT, textT, textT.go, wordL, dig_one, exprL]
theorem deep_of {b : Trm} (h : depT b ≤ 24) : deepT 1 b = false := by rw [deepT_dep]; exact decide_eq_false (by omega)
theorem wrong_of {b : Trm} (h : depT b ≤ 24) (h2 : shapT b = true) : wrongT b = 0 := by unfold wrongT; rw [deep_of h, h2]; rfl
theorem dep_of {b : Trm} (h : wrongT b = 0) : depT b ≤ 24 := by
  have := (wrongT_zero h).1
  rw [deepT_dep] at this
  simp only [decide_eq_false_iff_not] at this
  omega
theorem parse_text {b : Trm} (h : wrongT b = 0) (hl : (textT b).length ≤ 20000) : parseT (textT b) = (b, 0) := by
  have := text_read b 24 [] (wrongT_zero h).2 (dep_of h) (fun x xs e => by cases e)
  rw [List.append_nil] at this
  unfold parseT
  rw [decide_eq_false (by omega), if_neg (by decide), this]
  rfl
theorem expr_parse : parseT exprL = (exprT, 0) := by
  rw [← expr_text]
  exact parse_text (wrong_of (by rw [expr_dep]; decide) expr_shap) (by rw [expr_text]; decide)
theorem out_of {b : Trm} (h : wrongT b = 0) (hl : (textT b).length ≤ 20000) : outT b = (bsT (textT b), 0) := by
  unfold outT
  rw [if_pos h, if_neg (by rw [decide_eq_false (by omega)]; decide)]

theorem less_ev (bx : List Box) : ev cfg (.call 20 [] bx) = some (.ret (B true) none) := by
  obtain ⟨o, n, K, hT, h25⟩ := parse_ev exprL (by decide)
  have hw := wrong_of (b := exprT) (by rw [expr_dep]; decide) expr_shap
  rw [expr_parse] at hT h25
  have hz : sizeT exprT ≤ 1000000 := by rw [expr_size]; decide
  have h21 := check_ev exprT hT hz
  have e : checkT exprT = (2, 0) := by unfold checkT; rw [if_pos hw, expr_typ]; rfl
  rw [e] at h21
  have h23 := text_ev exprT hT hz
  rw [out_of hw (by rw [expr_text]; decide), expr_text] at h23
  have h31 := size_ev exprT hT hz
  rw [expr_size] at h31
  exact ev_step cfg (f20 (isT_one hT) h25 h21 h23 h31)

theorem room_ev (b : Trm) {op n : Int} {K : D} (h : IsT b op n K) (m : Int) (h0 : 0 ≤ m) (h1 : m ≤ 5000) (bx : List Box) :
    ev cfg (.call 19 [.agg [I op, I n, .dat K], .ptr (bx.length + 1) 0, I 1] (bx ++ [[I op, I n, .dat K], [I m]])) = some (.ret (B (bigT m 1 b).1) (some ⟨bx ++ [[I op, I n, .dat K], [I (bigT m 1 b).2]], bx.length + 1, false⟩)) := by
  have := large_ev b (m := m) (d := 1) (l := bx.length + 1) (bx := bx ++ [[I op, I n, .dat K], [I m]]) h (by omega) (by omega) (by decide) (by decide) (by simp)
  rw [app_set] at this
  exact this
theorem room_size {b : Trm} {m : Int} (h : (bigT m 1 b).1 = false) : sizeT b ≤ m + 1 := by
  have h' : ¬ (bigT m 1 b).1 = true := by rw [h]; decide
  have h1 := bigT_size b m 1 h'
  have h2 := bigT_lo b m 1 h'
  omega

theorem termChecks_ev (b : Trm) {op n : Int} {K : D} (h : IsT b op n K) (bx : List Box) : ev cfg (.call 5 [.agg [I op, I n, .dat K]] bx) = some (.ret (B true) none) :=
  ev_step cfg (f5 (isT_one h) (room_ev b h 3000 (by decide) (by decide) bx) less_ev
    (fun hb => check_ev b h (by have := room_size hb; omega)) (fun hb => rcheck_ev b h (by have := room_size hb; omega)))
theorem termTexts_ev (b : Trm) {op n : Int} {K : D} (h : IsT b op n K) (bx : List Box) : ev cfg (.call 6 [.agg [I op, I n, .dat K]] bx) = some (.ret (B true) none) :=
  ev_step cfg (f6 (isT_one h) (room_ev b h 3000 (by decide) (by decide) bx) less_ev
    (fun hb => text_ev b h (by have := room_size hb; omega)) (fun hb => rtext_ev b h (by have := room_size hb; omega)))

theorem termParses_ev (l : List UInt8) (bx : List Box) : ev cfg (.call 7 [S (bsT l)] bx) = some (.ret (B true) none) := by
  by_cases hl : (l.length : Int) > 21000
  · exact ev_step cfg (f7_long (decide_eq_true hl) less_ev)
  · obtain ⟨o, n, K, hT, h1⟩ := parse_ev l (by omega)
    obtain ⟨o2, n2, K2, hT2, h2⟩ := rparse_ev l (by omega)
    exact ev_step cfg (f7 (decide_eq_false hl) less_ev (isT_one hT) (isT_one hT2) h1 h2 (same_ev _ hT hT2))

theorem text_ge : ∀ (b : Trm), shapT b = true → sizeT b ≤ (textT b).length
  | .mk op n ks, h => by
    rw [shapT, Bool.and_eq_true] at h
    rw [textT, sizeT]
    have hd : 1 ≤ (digL n.toNat).length := by
      have : digL n.toNat ≠ [] := by unfold digL; split <;> simp
      cases hc : digL n.toNat with
      | nil => exact absurd hc this
      | cons => simp
    by_cases e1 : op = 1
    · subst e1
      have hl : ks = [] := by have := h.1; rw [nodeOk_1] at this; simp at this; exact this.1.1
      subst hl
      rw [if_pos rfl, sizeT.go]; omega
    · by_cases e2 : op = 2
      · subst e2
        have hl : ks = [] := by have := h.1; rw [nodeOk_2] at this; simp at this; exact this.1.1
        subst hl
        rw [if_neg (by decide), if_pos rfl, sizeT.go, List.length_cons]; omega
      · rw [if_neg e1, if_neg e2]
        have := go ks h.2
        simp only [List.length_append, List.length_cons, List.length_singleton]
        omega
where
  go : ∀ (bs : List Trm), shapT.go bs = true → sizeT.go bs ≤ (textT.go bs).length
  | [], h => by rw [sizeT.go, textT.go]; exact Int.le_refl 0
  | b :: bs, h => by
    rw [shapT.go, Bool.and_eq_true] at h
    rw [sizeT.go, textT.go, List.length_append, List.length_cons]
    have h1 := text_ge b h.1
    have h2 := go bs h.2
    omega

theorem parse_zero {l : List UInt8} (h : ((parseT l).2 == 0) = true) : ∃ u, (parseT l).1 = u ∧ l = textT u ∧ wrongT u = 0 := by
  unfold parseT at h ⊢
  split at h
  · cases h
  · rename_i hl
    rw [if_neg hl]
    cases hr : readP 24 l with
    | none => rw [hr] at h; cases h
    | some p =>
      obtain ⟨t, r⟩ := p
      rw [hr] at h
      simp only at h ⊢
      split at h
      · rename_i hn
        have : r = [] := by simpa using hn
        subst this
        obtain ⟨h1, h2, h3⟩ := read_text 24 l t [] hr
        rw [List.append_nil] at h1
        exact ⟨t, rfl, h1, wrong_of h3 h2⟩
      · cases h

theorem termBack_ev (b : Trm) {op n : Int} {K : D} (h : IsT b op n K) (l : List UInt8) (bx : List Box) : ev cfg (.call 8 [.agg [I op, I n, .dat K], S (bsT l)] bx) = some (.ret (B true) none) := by
  have hL := room_ev b h 2000 (by decide) (by decide) bx
  cases hbig : ((bigT 2000 1 b).1 || decide ((l.length : Int) > 5000)) with
  | true => exact ev_step cfg (f8_big (isT_one h) hL less_ev hbig)
  | false =>
    rw [Bool.or_eq_false_iff] at hbig
    obtain ⟨hb, hl⟩ := hbig
    have hl' : l.length ≤ 5000 := by simp only [decide_eq_false_iff_not] at hl; omega
    have hz := room_size hb
    rw [hb] at hL
    obtain ⟨o2, n2, K2, hT2, h4⟩ := parse_ev l (by omega)
    have h1 := text_ev b h (by omega)
    rw [bs_eq (outT b).1] at h1
    have h5 : ((parseT l).2 == 0) = true → ∀ bx : List Box, ev cfg (.call 23 [.agg [I o2, I n2, .dat K2]] bx) = some (.ret (.tup [S (bsT l), I 0]) none) := fun he => by
      obtain ⟨u, hu, hlu, hw⟩ := parse_zero he
      rw [hu] at hT2
      have hge := text_ge u (wrongT_zero hw).2
      have ho := out_of hw (by rw [← hlu]; omega)
      have := text_ev u hT2 (by rw [hlu] at hl'; omega)
      rw [ho, ← hlu] at this
      exact this
    cases he : ((outT b).2 == 0) with
    | false =>
      exact ev_step cfg (f8 (K' := .nil) (o := 0) (n' := 0) (isT_one h) rfl (isT_one hT2) hL less_ev hl h1 (fun h => by rw [he] at h; cases h) (fun h => by rw [he] at h; cases h) h4 h5)
    | true =>
      have hw : wrongT b = 0 ∧ (textT b).length ≤ 20000 ∧ (outT b).1 = bsT (textT b) := by
        unfold outT at he ⊢
        by_cases hw : wrongT b = 0
        · rw [if_pos hw] at he ⊢
          by_cases hc : decide (((textT b).length : Int) > 20000) = true
          · rw [if_pos hc] at he; cases he
          · rw [if_neg hc]
            exact ⟨hw, by simp at hc; omega, rfl⟩
        · rw [if_neg hw] at he
          exact (hw (by simpa using he)).elim
      obtain ⟨hw, htl, ho⟩ := hw
      rw [ho] at h1
      have e : bsT (bsT (textT b)).data.toList = bsT (textT b) := (bs_eq _).symm
      rw [e] at h1
      obtain ⟨o, n', K', hT', h2⟩ := parse_ev (textT b) (by omega)
      rw [parse_text hw htl] at hT' h2
      exact ev_step cfg (f8 (isT_one h) (isT_one hT') (isT_one hT2) hL less_ev hl h1 (fun _ => h2) (fun _ => same_ev b h hT') h4 h5)
end Go.Proofs.YtgppmcpbphgnnaaDoor
