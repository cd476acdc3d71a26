/- What large, wrong and Check answer, the reference's, too. No condition. -/
import Derived.Test.YtgppmcpbphgnnaaDoorT2
import Derived.Test.YtgppmcpbphgnnaaDoorT3
import Derived.Test.YtgppmcpbphgnnaaDoorT4
import Derived.Test.YtgppmcpbphgnnaaDoorT5
set_option linter.unusedSimpArgs false
set_option linter.unusedVariables false
set_option linter.unusedSectionVars false
namespace Go.Proofs.YtgppmcpbphgnnaaDoor
open Go Go.Vx
set_option maxRecDepth 10000

theorem isT_K {b : Trm} {op n : Int} {K : D} (h : IsT b op n K) : ∃ r, IsS 3 r K := by
  cases b
  rw [IsT] at h
  obtain ⟨_, _, _, _, rows, h1, _⟩ := h
  exact ⟨_, h1⟩

theorem large_ev : ∀ (b : Trm) {op n : Int} {K : D} {m d : Int} {l : Nat} {bx : List Box}, IsT b op n K → -1 ≤ m → m ≤ 1000000 → 0 ≤ d → d ≤ 101 → bx[l]? = some [I m] →
    ev cfg (.call 19 [.agg [I op, I n, .dat K], .ptr l 0, I d] bx) = some (.ret (B (bigT m d b).1) (some ⟨bx.set l [I (bigT m d b).2], l, false⟩))
  | .mk _ _ ks, op, n, K, m, d, l, bx, h, hm, hm2, hd, hd2, hb => by
    rw [IsT] at h
    obtain ⟨rfl, rfl, _, _, rows, hK, hks, hmax⟩ := h
    have hl : l < bx.length := (List.getElem?_eq_some_iff.1 hb).1
    apply ev_step
    rw [f19 (res := bigT.bigs (m - 1) (d + 1) ks) hK hl hb (wrap_lo (by omega) (by omega)) (isTs_len hks) ?_]
    · rw [bigT]; split <;> rfl
    · intro c1 c2 c hc
      have := loop ks (bx := bx.set l [I (m - 1)]) (d := d) (l := l) (m := m - 1) (i := 0) (c := c) hK rfl hks (by rw [(isTs_len hks)]; exact hmax) (by simp at c1; omega) (by omega) hd (by simpa using c2) (by simp [hl]) (by simpa using hc)
      simp only [List.length_set, List.set_set] at this
      exact this
where
  loop : ∀ (bs : List Trm) {rows rs : List (List D)} {K : D} {m d : Int} {l i : Nat} {bx : List Box} {c : Box}, IsS 3 rows K → rows.drop i = rs → IsT.IsTs bs rs → rows.length < 9223372036854775808 → -1 ≤ m → m ≤ 1000000 → 0 ≤ d → d ≤ 100 → bx[l]? = some [I m] → c.all (cellLt (bx.length + 1)) = true →
    ev cfg (.loop 19 5 ⟨(.dead :: .ptr l 0 :: I d :: .dead :: .dead :: .dead :: .dead :: .dead :: .dead :: .dead :: .dead :: .dead :: .dead :: .dead :: .dead :: .dead :: .dead :: .dead :: .dead :: .dead :: .dead :: .dead :: .dead :: .dead :: .dead :: .dead :: .dead :: .dead :: .dead :: .dead :: .dead :: .dead :: .dead :: .dat K :: I rows.length :: I i :: .dead :: .dead :: .dead :: .dead :: .dead :: .dead :: .dead :: .dead :: .dead :: []), bx ++ [c], bx.length, some l, false⟩) =
      some (if (bigT.bigs m (d + 1) bs).1 = true then .loop .ret ⟨(.dead :: .dead :: .dead :: .dead :: .dead :: .dead :: B true :: .dead :: .dead :: .dead :: .dead :: .dead :: .dead :: .dead :: .dead :: .dead :: .dead :: .dead :: .dead :: .dead :: .dead :: .dead :: .dead :: .dead :: .dead :: .dead :: .dead :: .dead :: .dead :: .dead :: .dead :: .dead :: .dead :: .dead :: .dead :: .dead :: .dead :: .dead :: .dead :: .dead :: .dead :: .dead :: .dead :: .dead :: .dead :: []), bx.set l [I (bigT.bigs m (d + 1) bs).2] ++ [c], bx.length, some l, false⟩
      else .loop (.exit 0) ⟨(.dead :: .dead :: .dead :: .dead :: .dead :: .dead :: .dead :: .dead :: .dead :: .dead :: .dead :: .dead :: .dead :: .dead :: .dead :: .dead :: .dead :: .dead :: .dead :: .dead :: .dead :: .dead :: .dead :: .dead :: .dead :: .dead :: .dead :: .dead :: .dead :: .dead :: .dead :: .dead :: .dead :: .dead :: .dead :: .dead :: .dead :: .dead :: .dead :: .dead :: .dead :: .dead :: .dead :: .dead :: .dead :: []), bx.set l [I (bigT.bigs m (d + 1) bs).2] ++ [c], bx.length, some l, false⟩)
  | [], rows, rs, K, m, d, l, i, bx, c, hK, hr, hbs, hmax, hm, hm2, hd, hd2, hb, hc => by
    have hl : l < bx.length := (List.getElem?_eq_some_iff.1 hb).1
    rw [IsT.IsTs] at hbs
    subst hbs
    simp only [bigT.bigs, Bool.false_eq_true, if_false]
    apply ev_step
    rw [e19 hl hc (drop_nil hr), set_same hb]
  | b :: bs, rows, rs, K, m, d, l, i, bx, c, hK, hr, hbs, hmax, hm, hm2, hd, hd2, hb, hc => by
    have hl : l < bx.length := (List.getElem?_eq_some_iff.1 hb).1
    rw [IsT.IsTs] at hbs
    obtain ⟨op, n, K', rest, rfl, hB, hrest⟩ := hbs
    obtain ⟨hget, hr', hlt⟩ := drop_cons hr
    have hb1 := fun (bx' : List Box) (h : bx'[l]? = some [I m]) (_ : l < bx'.length) => large_ev b (d := d + 1) hB hm hm2 (by omega) (by omega) h
    have hst := r19 (res := bigT m (d + 1) b) (d := d) hK hl hb hc hget hlt hmax (wrap_lo (by omega) (by omega)) (isT_one hB) hb1
    rw [bigT.bigs]
    by_cases hres : (bigT m (d + 1) b).1 = true
    · rw [if_pos hres] at hst
      rw [if_pos hres, if_pos rfl]
      exact ev_step cfg hst
    · rw [if_neg hres] at hst
      rw [if_neg hres]
      have hge := bigT_ge b m (d + 1)
      have := loop bs (bx := bx.set l [I (bigT m (d + 1) b).2]) (l := l) (m := (bigT m (d + 1) b).2) (i := i + 1) (d := d) (c := c) hK hr' hrest hmax (bigT_lo b m (d + 1) hres) (by omega) hd hd2 (by simp [hl]) (by simpa using hc)
      simp only [List.length_set, List.set_set] at this
      exact ev_step cfg (hst.trans this)

/-! ### ContainsFunc over terms -/
def findT (p : Trm → Bool) (i : Nat) : List Trm → Option Nat
  | [] => none
  | b :: bs => if p b = true then some i else findT p (i + 1) bs

theorem findT_any (p : Trm → Bool) : ∀ (bs : List Trm) (i : Nat), (findT p i bs).isSome = bs.any p
  | [], _ => rfl
  | b :: bs, i => by
    rw [findT, List.any_cons]
    cases p b with
    | true => rfl
    | false => simpa using findT_any p bs (i + 1)

theorem idx_ev {p : Trm → Bool} {g : FuncId} {cap : List Nat} {bx : List Box} (hcap : cap.all (fun l => decide (l < bx.length)) = true) : ∀ (bs : List Trm) {rows rs : List (List D)} {K : D} {i : Nat}, IsS 3 rows K → rows.drop i = rs → IsT.IsTs bs rs → rows.length < 9223372036854775808 →
    (∀ b ∈ bs, ∀ {op n : Int} {K' : D}, IsT b op n K' → ev cfg (.call g ([.agg [I op, I n, .dat K']] ++ cap.map fun l => .ptr l 0) bx) = some (.ret (B (p b)) none)) →
    ev cfg (.loop 84 2 ⟨(.dat K :: .clo g cap :: .dead :: .dead :: .dead :: .dead :: .dead :: I rows.length :: I i :: .dead :: .dead :: .dead :: .dead :: .dead :: .dead :: .dead :: .dead :: .dead :: .dead :: []), bx, bx.length, none, false⟩) =
      some (match findT p i bs with | some j => .loop .ret ⟨(.dead :: .dead :: .dead :: .dead :: I j :: .dead :: .dead :: .dead :: .dead :: .dead :: .dead :: .dead :: .dead :: .dead :: .dead :: .dead :: .dead :: .dead :: .dead :: []), bx, bx.length, none, false⟩ | none => .loop (.exit 0) ⟨(.dead :: .dead :: .dead :: .dead :: .dead :: .dead :: .dead :: .dead :: .dead :: .dead :: .dead :: .dead :: .dead :: .dead :: .dead :: .dead :: .dead :: .dead :: .dead :: []), bx, bx.length, none, false⟩)
  | [], rows, rs, K, i, hK, hr, hbs, hmax, hp => by
    rw [IsT.IsTs] at hbs
    subst hbs
    exact ev_step cfg (e84 hcap (drop_nil hr))
  | b :: bs, rows, rs, K, i, hK, hr, hbs, hmax, hp => by
    rw [IsT.IsTs] at hbs
    obtain ⟨op, n, K', rest, rfl, hB, hrest⟩ := hbs
    obtain ⟨hget, hr', hlt⟩ := drop_cons hr
    have h1 := r84 hK hget hlt hmax hcap (hp b (List.mem_cons_self ..) hB)
    rw [findT]
    cases hpb : p b with
    | true =>
      rw [hpb, if_pos rfl] at h1
      rw [if_pos rfl]
      exact ev_step cfg h1
    | false =>
      rw [hpb, if_neg (by decide)] at h1
      rw [if_neg (by decide)]
      exact ev_step cfg (h1.trans (idx_ev hcap bs hK hr' hrest hmax fun b hb => hp b (List.mem_cons_of_mem _ hb)))

theorem cf_ev {p : Trm → Bool} {g : FuncId} {cap : List Nat} {bx : List Box} (hcap : cap.all (fun l => decide (l < bx.length)) = true) {bs : List Trm} {rows : List (List D)} {K : D} (hK : IsS 3 rows K) (hbs : IsT.IsTs bs rows) (hmax : bs.length < 9223372036854775808)
    (hp : ∀ b ∈ bs, ∀ {op n : Int} {K' : D}, IsT b op n K' → ev cfg (.call g ([.agg [I op, I n, .dat K']] ++ cap.map fun l => .ptr l 0) bx) = some (.ret (B (p b)) none)) :
    ev cfg (.call 63 [.dat K, .clo g cap] bx) = some (.ret (B (bs.any p)) none) := by
  have h := idx_ev hcap bs (i := 0) hK rfl hbs (by rw [isTs_len hbs]; exact hmax) hp
  have h2 := ev_step cfg (f84 (r := findT p 0 bs) hK h)
  have h3 := ev_step cfg (f63 hK h2)
  rw [← findT_any p bs 0, h3]
  cases findT p 0 bs with
  | none => rfl
  | some j =>
    have : decide (idxI (some j) ≥ 0) = true := by simp [idxI]
    simp only [this, Option.isSome_some]

/-! ### deep -/
theorem deepT_any (d : Int) : ∀ bs : List Trm, bs.any (deepT d) = deepT.go d bs
  | [] => by rw [deepT.go]; rfl
  | b :: bs => by rw [deepT.go, List.any_cons, deepT_any d bs]

def DeepP (b : Trm) : Prop := ∀ {d op n : Int} {K : D}, IsT b op n K → 0 ≤ d → d + depT b ≤ 1000000000 → ∀ bx : List Box, ev cfg (.call 61 [.agg [I op, I n, .dat K], I d] bx) = some (.ret (B (deepT d b)) none)
theorem deep_ev : ∀ (b : Trm) {d op n : Int} {K : D}, IsT b op n K → 0 ≤ d → d + depT b ≤ 1000000000 → ∀ bx : List Box, ev cfg (.call 61 [.agg [I op, I n, .dat K], I d] bx) = some (.ret (B (deepT d b)) none)
  | .mk _ _ ks, d, op, n, K, h, hd, hz, bx => by
    rw [IsT] at h
    obtain ⟨rfl, rfl, _, _, rows, hK, hks, hmax⟩ := h
    rw [deepT, ← deepT_any]
    rw [depT] at hz
    refine ev_step cfg (f61 hK fun c => cf_ev (p := deepT (d + 1)) (by simp) hK hks hmax fun b hb op n K' hB => ?_)
    have hle := all_le ks 0 b hb
    obtain ⟨r, hK'⟩ := isT_K hB
    have := (depT_le b).1
    exact ev_step cfg (f82 (d := d) hK' (by simp) (by simp) (wrap_lo (by omega) (by omega)) (all ks b hb hB (by omega) (by omega)))
where
  all : ∀ (bs : List Trm), ∀ b ∈ bs, DeepP b
    | [], b, h => by cases h
    | c :: cs, b, h => (List.mem_cons.1 h).elim (fun e => e ▸ (fun h1 => deep_ev c h1)) fun h => all cs b h
  all_le : ∀ (bs : List Trm) (m : Int), ∀ b ∈ bs, depT b ≤ depT.go m bs
  | [], _, b, h => by cases h
  | c :: cs, m, b, h => by
    rw [depT.go]
    rcases List.mem_cons.1 h with h | h
    · subst h
      have := (go_ge cs (if m < depT b then depT b else m))
      split at this <;> split <;> omega
    · exact all_le cs _ b h
  go_ge : ∀ (bs : List Trm) (m : Int), m ≤ depT.go m bs
  | [], m => by rw [depT.go]; omega
  | c :: cs, m => by
    rw [depT.go]
    have := go_ge cs (if m < depT c then depT c else m)
    split at this <;> split <;> omega

/-! ### shaped -/
theorem shapT_any : ∀ bs : List Trm, bs.any (fun b => !shapT b) = !shapT.go bs
  | [] => by rw [shapT.go]; rfl
  | b :: bs => by rw [shapT.go, List.any_cons, shapT_any bs, Bool.not_and]

theorem nodeOk_1 (n : Int) (l : Nat) : nodeOk 1 n l = ((l : Int) == 0 && decide (n ≥ 0) && decide (n ≤ 1099511627776)) := by
  rw [nodeOk, if_pos rfl]
  have : (l == 0) = ((l : Int) == 0) := by rw [Bool.eq_iff_iff]; simp
  rw [this]
theorem nodeOk_2 (n : Int) (l : Nat) : nodeOk 2 n l = ((l : Int) == 0 && decide (n ≥ 0) && decide (n < 4)) := by
  rw [nodeOk, if_neg (by decide), if_pos rfl]
  have : (l == 0) = ((l : Int) == 0) := by rw [Bool.eq_iff_iff]; simp
  rw [this]

def ShapP (b : Trm) : Prop := ∀ {op n : Int} {K : D}, IsT b op n K → ∀ bx : List Box, ev cfg (.call 62 [.agg [I op, I n, .dat K]] bx) = some (.ret (B (shapT b)) none)
theorem shap_ev : ∀ (b : Trm) {op n : Int} {K : D}, IsT b op n K → ∀ bx : List Box, ev cfg (.call 62 [.agg [I op, I n, .dat K]] bx) = some (.ret (B (shapT b)) none)
  | .mk _ _ ks, op, n, K, h, bx => by
    rw [IsT] at h
    obtain ⟨rfl, rfl, _, _, rows, hK, hks, hmax⟩ := h
    rw [shapT]
    have hrl := isTs_len hks
    by_cases e1 : op = 1
    · subst e1
      rw [ev_step cfg (f62_1 hK hrl), ← nodeOk_1]
      cases hn : nodeOk 1 n ks.length with
      | false => rfl
      | true =>
        rw [nodeOk_1] at hn
        simp at hn
        rw [hn.1.1, shapT.go]; rfl
    · by_cases e2 : op = 2
      · subst e2
        rw [ev_step cfg (f62_2 hK hrl), ← nodeOk_2]
        cases hn : nodeOk 2 n ks.length with
        | false => rfl
        | true =>
          rw [nodeOk_2] at hn
          simp at hn
          rw [hn.1.1, shapT.go]; rfl
      · have h1 : (op == 1) = false := by simpa using e1
        have h2 : (op == 2) = false := by simpa using e2
        have hno : nodeOk op n ks.length = (okOp op && n == 0 && ks.length == arity op) := by rw [nodeOk, if_neg e1, if_neg e2]
        rw [hno]
        by_cases hb : (decide (op < 3) || decide (op > 14) || n != 0) = true
        · rw [ev_step cfg (f62_no hK h1 h2 hb)]
          have : (okOp op && n == 0) = false := by
            rw [Bool.eq_false_iff]
            intro h
            simp only [okOp, Bool.and_eq_true, decide_eq_true_eq, beq_iff_eq] at h
            simp only [Bool.or_eq_true, decide_eq_true_eq, bne_iff_ne, ne_eq] at hb
            omega
          rw [this]; rfl
        · rw [Bool.not_eq_true, Bool.or_eq_false_iff, Bool.or_eq_false_iff] at hb
          obtain ⟨⟨c1, c2⟩, c3⟩ := hb
          have hok : okOp op = true := by
            simp only [okOp, Bool.and_eq_true, decide_eq_true_eq]
            simp only [decide_eq_false_iff_not] at c1 c2
            omega
          have hn : (n == 0) = true := by simpa using c3
          have hkids := fun bx : List Box => cf_ev (p := fun b => !shapT b) (g := 83) (cap := []) (bx := bx) rfl hK hks hmax fun b hb op n K' hB => by
            obtain ⟨r, hK'⟩ := isT_K hB
            exact ev_step cfg (f83 hK' (all ks b hb hB))
          rw [ev_step cfg (f62_op hK hrl h1 h2 c1 c2 c3 (wd hok) hkids), shapT_any, hok, hn]
          have : (!((ks.length : Int) != (arity op : Int))) = (ks.length == arity op) := by rw [Bool.eq_iff_iff]; simp; omega
          rw [this, Bool.not_not]
          rfl
where
  all : ∀ (bs : List Trm), ∀ b ∈ bs, ShapP b
    | [], b, h => by cases h
    | c :: cs, b, h => (List.mem_cons.1 h).elim (fun e => e ▸ (fun h1 => shap_ev c h1)) fun h => all cs b h

theorem wrong_ev (b : Trm) {op n : Int} {K : D} (h : IsT b op n K) (hz : sizeT b ≤ 1000000) (bx : List Box) : ev cfg (.call 43 [.agg [I op, I n, .dat K]] bx) = some (.ret (I (wrongT b)) none) := by
  obtain ⟨r, hK⟩ := isT_K h
  have := (depT_le b).2
  exact ev_step cfg (f43 hK (deep_ev b h (by omega) (by omega)) (shap_ev b h))

/-! ### typed -/
theorem typT_any (op : Int) : ∀ bs : List Trm, bs.any (fun b => typT b != tyOf (asked op)) = !typT.go op bs
  | [] => by rw [typT.go]; rfl
  | b :: bs => by
    rw [typT.go, List.any_cons, typT_any op bs, Bool.not_and]; rfl

theorem node_op {op n : Int} {l : Nat} (h : nodeOk op n l = true) (e1 : ¬ op = 1) (e2 : ¬ op = 2) : okOp op = true ∧ n = 0 ∧ l = arity op := by
  rw [nodeOk, if_neg e1, if_neg e2] at h
  simp only [Bool.and_eq_true, beq_iff_eq] at h
  exact ⟨h.1.1, h.1.2, h.2⟩

def TypP (b : Trm) : Prop := ∀ {op n : Int} {K : D}, IsT b op n K → shapT b = true → ∀ bx : List Box, ev cfg (.call 44 [.agg [I op, I n, .dat K]] bx) = some (.ret (I (typT b)) none)
theorem typ_ev : ∀ (b : Trm) {op n : Int} {K : D}, IsT b op n K → shapT b = true → ∀ bx : List Box, ev cfg (.call 44 [.agg [I op, I n, .dat K]] bx) = some (.ret (I (typT b)) none)
  | .mk _ _ ks, op, n, K, h, hs, bx => by
    rw [IsT] at h
    obtain ⟨rfl, rfl, _, _, rows, hK, hks, hmax⟩ := h
    rw [shapT, Bool.and_eq_true] at hs
    rw [typT]
    by_cases e : op = 1 ∨ op = 2
    · rw [if_pos e]
      exact ev_step cfg (f44_leaf hK (by simpa using e))
    · rw [if_neg e]
      have e1 : ¬ op = 1 := fun h => e (.inl h)
      have e2 : ¬ op = 2 := fun h => e (.inr h)
      obtain ⟨hok, _, _⟩ := node_op hs.1 e1 e2
      have := ev_step cfg (f44_op (bx := bx) (n := n) (b := ks.any fun b => typT b != tyOf (asked op)) hK (by simpa using e1) (by simpa using e2) (wd hok) fun c => cf_ev (p := fun b => typT b != tyOf (asked op)) (by simp) hK hks hmax fun b hb op' n' K' hB => by
        obtain ⟨r, hK'⟩ := isT_K hB
        exact ev_step cfg (f64 (l := bx.length + 1) (s := bsL (wordL op)) (ar := arity op) (ask := tyOf (asked op)) (out := tyOf (truth op)) hK' (by simp) (by simp) (all ks b hb hB (kids ks hs.2 b hb))))
      rw [this, typT_any]
      cases typT.go op ks <;> rfl
where
  all : ∀ (bs : List Trm), ∀ b ∈ bs, TypP b
    | [], b, h => by cases h
    | c :: cs, b, h => (List.mem_cons.1 h).elim (fun e => e ▸ (fun h1 => typ_ev c h1)) fun h => all cs b h
  kids : ∀ (bs : List Trm), shapT.go bs = true → ∀ b ∈ bs, shapT b = true
  | [], _, b, h => by cases h
  | c :: cs, hs, b, h => by
    rw [shapT.go, Bool.and_eq_true] at hs
    rcases List.mem_cons.1 h with h | h
    · subst h; exact hs.1
    · exact kids cs hs.2 b h

/-- what both Checks answer -/
def checkT (t : Trm) : Int × Int := if wrongT t = 0 then (if typT t = 0 then (0, 30) else (typT t, 0)) else (0, wrongT t)

theorem wrongT_zero {t : Trm} (h : wrongT t = 0) : deepT 1 t = false ∧ shapT t = true := by
  unfold wrongT at h
  split at h
  · cases h
  · rename_i hd
    split at h
    · rename_i hs
      exact ⟨by simpa using hd, hs⟩
    · cases h

theorem check_ev (b : Trm) {op n : Int} {K : D} (h : IsT b op n K) (hz : sizeT b ≤ 1000000) (bx : List Box) : ev cfg (.call 21 [.agg [I op, I n, .dat K]] bx) = some (.ret (.tup [I (checkT b).1, I (checkT b).2]) none) := by
  obtain ⟨r, hK⟩ := isT_K h
  unfold checkT
  by_cases hw : wrongT b = 0
  · rw [if_pos hw]
    have hw' := wrong_ev b h hz
    rw [hw] at hw'
    rw [ev_step cfg (f21_ok hK hw' (typ_ev b h (wrongT_zero hw).2))]
    by_cases ht : typT b = 0
    · rw [if_pos ht, ht]; rfl
    · rw [if_neg ht]
      have : (typT b == 0) = false := by simpa using ht
      rw [this]; rfl
  · rw [if_neg hw]
    exact ev_step cfg (f21_bad hK (by simpa using hw) (wrong_ev b h hz))

/-! ### the reference -/
theorem dep_ev : ∀ (b : Trm) {op n : Int} {K : D}, IsT b op n K → sizeT b ≤ 1000000 → ∀ bx : List Box, ev cfg (.call 65 [.agg [I op, I n, .dat K]] bx) = some (.ret (I (depT b)) none)
  | .mk _ _ ks, op, n, K, h, hz, bx => by
    rw [IsT] at h
    obtain ⟨rfl, rfl, _, _, rows, hK, hks, hmax⟩ := h
    have hd := depT_le.go ks 0 (by omega)
    rw [sizeT] at hz
    rw [depT]
    exact ev_step cfg (f65 hK (wrap_lo (by omega) (by omega)) fun c hc => loop ks (i := 0) (m := 0) hK rfl hks (by rw [isTs_len hks]; exact hmax) (by omega) hc)
where
  loop : ∀ (bs : List Trm) {rows rs : List (List D)} {K : D} {m : Int} {i : Nat} {bx : List Box} {c : Box}, IsS 3 rows K → rows.drop i = rs → IsT.IsTs bs rs → rows.length < 9223372036854775808 → sizeT.go bs ≤ 1000000 → c.all (cellLt (bx.length + 1)) = true →
    ev cfg (.loop 65 3 ⟨(.dead :: .dead :: .dead :: I m :: .dead :: .dead :: .dead :: .dead :: .dat K :: I rows.length :: I i :: .dead :: .dead :: .dead :: .dead :: .dead :: .dead :: .dead :: .dead :: .dead :: .dead :: .dead :: .dead :: []), bx ++ [c], bx.length, none, false⟩) = some (.loop (.exit 0) ⟨(.dead :: .dead :: .dead :: I (depT.go m bs) :: .dead :: .dead :: .dead :: .dead :: .dead :: .dead :: .dead :: .dead :: .dead :: .dead :: .dead :: .dead :: .dead :: .dead :: .dead :: .dead :: .dead :: .dead :: .dead :: []), bx ++ [c], bx.length, none, false⟩)
  | [], rows, rs, K, m, i, bx, c, hK, hr, hbs, hmax, hz, hc => by
    rw [IsT.IsTs] at hbs
    subst hbs
    rw [depT.go]
    exact ev_step cfg (e65 hc (drop_nil hr))
  | b :: bs, rows, rs, K, m, i, bx, c, hK, hr, hbs, hmax, hz, hc => by
    rw [IsT.IsTs] at hbs
    obtain ⟨op, n, K', rest, rfl, hB, hrest⟩ := hbs
    obtain ⟨hget, hr', hlt⟩ := drop_cons hr
    rw [sizeT.go] at hz
    have p1 := sizeT_pos b
    have p2 := sizeT_pos.go bs
    rw [depT.go]
    exact ev_step cfg ((r65 hK hc hget hlt hmax (isT_one hB) (dep_ev b hB (by omega))).trans (loop bs (i := i + 1) hK hr' hrest hmax (by omega) hc))

theorem nodeOk_form {op n : Int} {l : Nat} (hr : ∀ ar : Int, ar = (if op < 3 then 0 else if op < 5 then 1 else 2) → ((l : Int) != ar) = false) (c1 : decide (op < 1) = false) (c2 : decide (op > 14) = false) (c4 : decide (n < 0) = false)
    (d1 : ((op == 1) && decide (n > 1099511627776)) = false) (d2 : ((op == 2) && decide (n > 3)) = false) (d3 : (decide (op > 2) && (n != 0)) = false) : nodeOk op n l = true := by
  have hr := hr _ rfl
  simp only [decide_eq_false_iff_not, Bool.and_eq_false_iff, beq_eq_false_iff_ne, ne_eq, bne_eq_false_iff_eq] at c1 c2 c4 d1 d2 d3 hr
  unfold nodeOk
  split
  · rename_i e
    subst e
    simp at hr d1 c4 ⊢
    omega
  · split
    · rename_i e
      subst e
      simp at hr d2 c4 ⊢
      omega
    · rename_i e1 e2
      have h3 : ¬ op < 3 := by omega
      rw [if_neg h3] at hr
      simp only [okOp, arity, Bool.and_eq_true, decide_eq_true_eq, beq_iff_eq]
      refine ⟨⟨⟨by omega, by omega⟩, ?_⟩, ?_⟩
      · rcases d3 with d3 | d3 <;> omega
      · split at hr <;> split <;> omega

theorem form_ev : ∀ (b : Trm) {op n : Int} {K : D}, IsT b op n K → ∀ bx : List Box, ev cfg (.call 66 [.agg [I op, I n, .dat K]] bx) = some (.ret (B (shapT b)) none)
  | .mk _ _ ks, op, n, K, h, bx => by
    rw [IsT] at h
    obtain ⟨rfl, rfl, _, _, rows, hK, hks, hmax⟩ := h
    have hrl := isTs_len hks
    have hk : ∀ bx : List Box, ev cfg (.call 79 [I op] bx) = some (.ret (I (if op < 3 then 0 else if op < 5 then 1 else 2)) none) := fun bx => ev_step cfg f79
    rw [shapT]
    by_cases hok : nodeOk op n ks.length = true
    · rw [hok, Bool.true_and]
      have hA : (decide (op < 1) = false ∧ decide (op > 14) = false) ∧ ((ks.length : Int) != (if op < 3 then 0 else if op < 5 then 1 else 2)) = false ∧ decide (n < 0) = false ∧ ((op == 1) && decide (n > 1099511627776)) = false ∧ ((op == 2) && decide (n > 3)) = false ∧ (decide (op > 2) && (n != 0)) = false := by
        generalize ks.length = kl at hok ⊢
        simp only [decide_eq_false_iff_not, Bool.and_eq_false_iff, beq_eq_false_iff_ne, ne_eq, bne_eq_false_iff_eq]
        unfold nodeOk at hok
        split at hok
        · rename_i e; subst e; simp at hok ⊢; omega
        · split at hok
          · rename_i e; subst e; simp at hok ⊢; omega
          · rename_i e1 e2
            simp only [okOp, arity, Bool.and_eq_true, decide_eq_true_eq, beq_iff_eq] at hok
            have h3 : ¬ op < 3 := by omega
            rw [if_neg h3]
            refine ⟨⟨by omega, by omega⟩, ?_, by omega, .inl (by omega), .inl (by omega), .inr (by omega)⟩
            have := hok.2
            split at this <;> split <;> omega
      obtain ⟨⟨a1, a2⟩, a3, a4, a5, a6, a7⟩ := hA
      exact ev_step cfg (f66_go hK hrl a1 a2 hk a3 a4 a5 a6 a7 fun c hc => loop ks (i := 0) hK rfl hks (by rw [hrl]; exact hmax) hc)
    · have hno : nodeOk op n ks.length = false := by simpa using hok
      rw [hno, Bool.false_and]
      by_cases b1 : (decide (op < 1) || decide (op > 14)) = true
      · exact ev_step cfg (f66_bad1 hK b1)
      · rw [Bool.not_eq_true, Bool.or_eq_false_iff] at b1
        by_cases b2 : ((ks.length : Int) != (if op < 3 then 0 else if op < 5 then 1 else 2) || decide (n < 0)) = true
        · exact ev_step cfg (f66_bad2 hK hrl b1.1 b1.2 hk b2)
        · rw [Bool.not_eq_true, Bool.or_eq_false_iff] at b2
          by_cases b3 : ((op == 1) && decide (n > 1099511627776) || (op == 2) && decide (n > 3) || decide (op > 2) && (n != 0)) = true
          · exact ev_step cfg (f66_bad3 hK hrl b1.1 b1.2 hk b2.1 b2.2 b3)
          · rw [Bool.not_eq_true, Bool.or_eq_false_iff, Bool.or_eq_false_iff] at b3
            exact absurd (nodeOk_form (fun ar e => by rw [e]; exact b2.1) b1.1 b1.2 b2.2 b3.1.1 b3.1.2 b3.2) hok
where
  loop : ∀ (bs : List Trm) {rows rs : List (List D)} {K : D} {i : Nat} {bx : List Box} {c : Box}, IsS 3 rows K → rows.drop i = rs → IsT.IsTs bs rs → rows.length < 9223372036854775808 → c.all (cellLt (bx.length + 1)) = true →
    ev cfg (.loop 66 6 ⟨(.dead :: .dead :: .dead :: .dead :: .dead :: .dead :: .dead :: .dead :: .dead :: .dead :: .dead :: .dead :: .dead :: .dead :: .dead :: .dead :: .dead :: .dead :: .dead :: .dead :: .dead :: .dead :: .dead :: .dead :: .dead :: .dead :: .dead :: .dead :: .dead :: .dead :: .dead :: .dead :: .dead :: .dead :: .dead :: .dead :: .dead :: .dead :: .dead :: .dead :: .dead :: .dead :: .dead :: .dead :: .dead :: .dead :: .dead :: .dead :: .dead :: .dead :: .dead :: .dead :: .dead :: .dead :: .dead :: .dead :: .dat K :: I rows.length :: I i :: .dead :: .dead :: .dead :: .dead :: .dead :: .dead :: .dead :: []), bx ++ [c], bx.length, none, false⟩) =
      some (if shapT.go bs = true then .loop (.exit 0) ⟨(.dead :: .dead :: .dead :: .dead :: .dead :: .dead :: .dead :: .dead :: .dead :: .dead :: .dead :: .dead :: .dead :: .dead :: .dead :: .dead :: .dead :: .dead :: .dead :: .dead :: .dead :: .dead :: .dead :: .dead :: .dead :: .dead :: .dead :: .dead :: .dead :: .dead :: .dead :: .dead :: .dead :: .dead :: .dead :: .dead :: .dead :: .dead :: .dead :: .dead :: .dead :: .dead :: .dead :: .dead :: .dead :: .dead :: .dead :: .dead :: .dead :: .dead :: .dead :: .dead :: .dead :: .dead :: .dead :: .dead :: .dead :: .dead :: .dead :: .dead :: .dead :: .dead :: .dead :: .dead :: .dead :: .dead :: []), bx ++ [c], bx.length, none, false⟩ else .loop .ret ⟨(.dead :: .dead :: B false :: .dead :: .dead :: .dead :: .dead :: .dead :: .dead :: .dead :: .dead :: .dead :: .dead :: .dead :: .dead :: .dead :: .dead :: .dead :: .dead :: .dead :: .dead :: .dead :: .dead :: .dead :: .dead :: .dead :: .dead :: .dead :: .dead :: .dead :: .dead :: .dead :: .dead :: .dead :: .dead :: .dead :: .dead :: .dead :: .dead :: .dead :: .dead :: .dead :: .dead :: .dead :: .dead :: .dead :: .dead :: .dead :: .dead :: .dead :: .dead :: .dead :: .dead :: .dead :: .dead :: .dead :: .dead :: .dead :: .dead :: .dead :: .dead :: .dead :: .dead :: .dead :: .dead :: .dead :: []), bx ++ [c], bx.length, none, false⟩)
  | [], rows, rs, K, i, bx, c, hK, hr, hbs, hmax, hc => by
    rw [IsT.IsTs] at hbs
    subst hbs
    rw [shapT.go, if_pos rfl]
    exact ev_step cfg (e66 hc (drop_nil hr))
  | b :: bs, rows, rs, K, i, bx, c, hK, hr, hbs, hmax, hc => by
    rw [IsT.IsTs] at hbs
    obtain ⟨op, n, K', rest, rfl, hB, hrest⟩ := hbs
    obtain ⟨hget, hr', hlt⟩ := drop_cons hr
    have h1 := r66 hK hc hget hlt hmax (isT_one hB) (form_ev b hB)
    rw [shapT.go]
    cases hb : shapT b with
    | true =>
      rw [hb, if_pos rfl] at h1
      rw [Bool.true_and]
      exact ev_step cfg (h1.trans (loop bs (i := i + 1) hK hr' hrest hmax hc))
    | false =>
      rw [hb, if_neg (by decide)] at h1
      rw [Bool.false_and, if_neg (by decide)]
      exact ev_step cfg h1

theorem rwrong_ev (b : Trm) {op n : Int} {K : D} (h : IsT b op n K) (hz : sizeT b ≤ 1000000) (bx : List Box) : ev cfg (.call 45 [.agg [I op, I n, .dat K]] bx) = some (.ret (I (wrongT b)) none) := by
  obtain ⟨r, hK⟩ := isT_K h
  rw [ev_step cfg (f45 hK (dep_ev b h hz) (form_ev b h)), wrongT, deepT_dep]
  have : decide (1 + depT b > 25) = decide (depT b > 24) := by rw [Bool.eq_iff_iff]; simp only [decide_eq_true_eq]; omega
  rw [this]

theorem okTy_ev : ∀ (b : Trm) {op n : Int} {K : D}, IsT b op n K → ∀ bx : List Box, ev cfg (.call 46 [.agg [I op, I n, .dat K]] bx) = some (.ret (B (okTy b)) none)
  | .mk _ _ ks, op, n, K, h, bx => by
    rw [IsT] at h
    obtain ⟨rfl, rfl, _, _, rows, hK, hks, hmax⟩ := h
    rw [okTy]
    exact ev_step cfg (f46 hK fun c hc => loop ks (i := 0) hK rfl hks (by rw [isTs_len hks]; exact hmax) hc)
where
  loop : ∀ (bs : List Trm) {rows rs : List (List D)} {K : D} {a : Bool} {i : Nat} {bx : List Box} {c : Box}, IsS 3 rows K → rows.drop i = rs → IsT.IsTs bs rs → rows.length < 9223372036854775808 → c.all (cellLt (bx.length + 1)) = true →
    ev cfg (.loop 46 3 ⟨(.dead :: .dead :: .dead :: B a :: .dead :: .dead :: .dead :: .dead :: .dead :: .dead :: .dead :: .dead :: .dead :: .dead :: .dead :: .dat K :: I rows.length :: I i :: .dead :: .dead :: .dead :: .dead :: .dead :: .dead :: .dead :: .dead :: .dead :: .dead :: .dead :: .dead :: .dead :: .dead :: []), bx ++ [c], bx.length, none, false⟩) =
      some (if okTy.go a bs = true then .loop (.exit 0) ⟨(.dead :: .dead :: .dead :: .dead :: .dead :: .dead :: .dead :: .dead :: .dead :: .dead :: .dead :: .dead :: .dead :: .dead :: .dead :: .dead :: .dead :: .dead :: .dead :: .dead :: .dead :: .dead :: .dead :: .dead :: .dead :: .dead :: .dead :: .dead :: .dead :: .dead :: .dead :: .dead :: []), bx ++ [c], bx.length, none, false⟩ else .loop .ret ⟨(.dead :: .dead :: B false :: .dead :: .dead :: .dead :: .dead :: .dead :: .dead :: .dead :: .dead :: .dead :: .dead :: .dead :: .dead :: .dead :: .dead :: .dead :: .dead :: .dead :: .dead :: .dead :: .dead :: .dead :: .dead :: .dead :: .dead :: .dead :: .dead :: .dead :: .dead :: .dead :: []), bx ++ [c], bx.length, none, false⟩)
  | [], rows, rs, K, a, i, bx, c, hK, hr, hbs, hmax, hc => by
    rw [IsT.IsTs] at hbs
    subst hbs
    rw [okTy.go, if_pos rfl]
    exact ev_step cfg (e46 hc (drop_nil hr))
  | .mk op0 n0 ks0 :: bs, rows, rs, K, a, i, bx, c, hK, hr, hbs, hmax, hc => by
    rw [IsT.IsTs] at hbs
    obtain ⟨op, n, K', rest, rfl, hB, hrest⟩ := hbs
    obtain ⟨hget, hr', hlt⟩ := drop_cons hr
    have e : op = op0 := by rw [IsT] at hB; exact hB.1
    subst e
    have h1 := r46 (a := a) hK hc hget hlt hmax (isT_one hB) (fun bx => ev_step cfg f47) (okTy_ev (.mk op n0 ks0) hB)
    rw [okTy.go]
    cases hb : (truth op == a) && okTy (.mk op n0 ks0) with
    | true =>
      rw [hb, if_pos rfl] at h1
      rw [Bool.true_and]
      exact ev_step cfg (h1.trans (loop bs (i := i + 1) hK hr' hrest hmax hc))
    | false =>
      rw [hb, if_neg (by decide)] at h1
      rw [Bool.false_and, if_neg (by decide)]
      exact ev_step cfg h1

/-- both type systems agree on what is shaped -/
theorem typT_okTy : ∀ (b : Trm) {op n : Int} {ks : List Trm}, b = .mk op n ks → shapT b = true → typT b = if okTy b = true then tyOf (truth op) else 0
  | .mk op n ks, op', n', ks', e, hs => by
    cases e
    rw [shapT, Bool.and_eq_true] at hs
    rw [typT, okTy]
    by_cases e : op = 1 ∨ op = 2
    · rw [if_pos e]
      have hl : ks = [] := by
        rcases e with rfl | rfl
        · have := hs.1; rw [nodeOk_1] at this; simp at this; exact this.1.1
        · have := hs.1; rw [nodeOk_2] at this; simp at this; exact this.1.1
      subst hl
      rw [okTy.go, if_pos rfl]
      rcases e with rfl | rfl <;> rfl
    · rw [if_neg e, go op ks hs.2]
where
  go (op : Int) : ∀ (bs : List Trm), shapT.go bs = true → typT.go op bs = okTy.go (asked op) bs
  | [], _ => by rw [typT.go, okTy.go]
  | .mk o n ks :: bs, hs => by
    rw [shapT.go, Bool.and_eq_true] at hs
    rw [typT.go, okTy.go, go op bs hs.2, typT_okTy (.mk o n ks) rfl hs.1]
    congr 1
    cases okTy (.mk o n ks) <;> cases truth o <;> cases asked op <;> rfl

theorem rcheck_ev (b : Trm) {op n : Int} {K : D} (h : IsT b op n K) (hz : sizeT b ≤ 1000000) (bx : List Box) : ev cfg (.call 22 [.agg [I op, I n, .dat K]] bx) = some (.ret (.tup [I (checkT b).1, I (checkT b).2]) none) := by
  obtain ⟨r, hK⟩ := isT_K h
  unfold checkT
  by_cases hw : wrongT b = 0
  · rw [if_pos hw]
    have hw' := rwrong_ev b h hz
    rw [hw] at hw'
    have e : ∃ ks, b = .mk op n ks := by
      cases b with
      | mk o m ks => rw [IsT] at h; obtain ⟨rfl, rfl, _⟩ := h; exact ⟨ks, rfl⟩
    obtain ⟨ks, e⟩ := e
    rw [ev_step cfg (f22_ok hK hw' (okTy_ev b h) fun bx => ev_step cfg f47), typT_okTy b e (wrongT_zero hw).2]
    cases okTy b with
    | true =>
      have : ¬ tyOf (truth op) = 0 := by cases truth op <;> decide
      rw [if_pos rfl, if_pos rfl, if_neg this]
    | false => rfl
  · rw [if_neg hw]
    exact ev_step cfg (f22_bad hK (by simpa using hw) (rwrong_ev b h hz))

end Go.Proofs.YtgppmcpbphgnnaaDoor
