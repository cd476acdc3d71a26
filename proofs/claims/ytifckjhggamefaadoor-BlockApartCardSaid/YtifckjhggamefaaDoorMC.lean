/- What large, wrong and Check answer, the reference's, too. No condition. -/
import Derived.Test.YtifckjhggamefaaDoorT2
import Derived.Test.YtifckjhggamefaaDoorT3
import Derived.Test.YtifckjhggamefaaDoorMB
import Derived.Test.YtifckjhggamefaaDoorB4
import Derived.Test.YtifckjhggamefaaDoorB5
import Derived.Test.YtifckjhggamefaaDoorB7
import Derived.Test.YtifckjhggamefaaDoorB9
import Derived.Test.YtifckjhggamefaaDoorB14
import Derived.Laws.Strings
set_option linter.unusedSimpArgs false
set_option linter.unusedVariables false
set_option linter.unusedSectionVars false
namespace Go.Proofs.YtifckjhggamefaaDoor
open Go Go.Vx
set_option maxRecDepth 10000
set_option maxHeartbeats 2000000

theorem isT_K {b : Trm} {op n : Int} {K : D} (h : IsT b op n K) : ∃ r, IsS 3 r K := by
  cases b
  rw [IsT] at h
  obtain ⟨_, _, _, _, rows, h1, _⟩ := h
  exact ⟨_, h1⟩

def findT (p : Trm → Bool) (i : Nat) : List Trm → Option Nat
  | [] => none
  | b :: bs => if p b = true then some i else findT p (i + 1) bs

theorem findT_any (p : Trm → Bool) : ∀ (bs : List Trm) (i : Nat), (findT p i bs).isSome = bs.any p
  | [], _ => rfl
  | b :: bs, i => by
    rw [findT, List.any_cons]
    cases p b with
    | true => rfl
    | false => simpa using findT_any p bs (i + 1)

theorem idx_ev {p : Trm → Bool} {g : FuncId} {cap : List Nat} {bx : List Box} (hcap : cap.all (fun l => decide (l < bx.length)) = true) : ∀ (bs : List Trm) {rows rs : List (List D)} {K : D} {i : Nat}, IsS 3 rows K → rows.drop i = rs → IsT.IsTs bs rs → rows.length < 9223372036854775808 →
    (∀ b ∈ bs, ∀ {op n : Int} {K' : D}, IsT b op n K' → ev cfg (.call g ([.agg [I op, I n, .dat K']] ++ cap.map fun l => .ptr l 0) bx) = some (.ret (B (p b)) none)) →
    ev cfg (.loop 100 2 ⟨(.dat K :: .clo g cap :: .dead :: .dead :: .dead :: .dead :: .dead :: I rows.length :: I i :: .dead :: .dead :: .dead :: .dead :: .dead :: .dead :: .dead :: .dead :: .dead :: .dead :: []), bx, bx.length, none, false⟩) =
      some (match findT p i bs with | some j => .loop .ret ⟨(.dead :: .dead :: .dead :: .dead :: I j :: .dead :: .dead :: .dead :: .dead :: .dead :: .dead :: .dead :: .dead :: .dead :: .dead :: .dead :: .dead :: .dead :: .dead :: []), bx, bx.length, none, false⟩ | none => .loop (.exit 0) ⟨(.dead :: .dead :: .dead :: .dead :: .dead :: .dead :: .dead :: .dead :: .dead :: .dead :: .dead :: .dead :: .dead :: .dead :: .dead :: .dead :: .dead :: .dead :: .dead :: []), bx, bx.length, none, false⟩)
  | [], rows, rs, K, i, hK, hr, hbs, hmax, hp => by
    rw [IsT.IsTs] at hbs
    subst hbs
    exact ev_step cfg (e84 hcap (drop_nil hr))
  | b :: bs, rows, rs, K, i, hK, hr, hbs, hmax, hp => by
    rw [IsT.IsTs] at hbs
    obtain ⟨op, n, K', rest, rfl, hB, hrest⟩ := hbs
    obtain ⟨hget, hr', hlt⟩ := drop_cons hr
    have h1 := r84 hK hget hlt hmax hcap (hp b (List.mem_cons_self ..) hB)
    rw [findT]
    cases hpb : p b with
    | true =>
      rw [hpb, if_pos rfl] at h1
      rw [if_pos rfl]
      exact ev_step cfg h1
    | false =>
      rw [hpb, if_neg (by decide)] at h1
      rw [if_neg (by decide)]
      exact ev_step cfg (h1.trans (idx_ev hcap bs hK hr' hrest hmax fun b hb => hp b (List.mem_cons_of_mem _ hb)))

theorem cf_ev {p : Trm → Bool} {g : FuncId} {cap : List Nat} {bx : List Box} (hcap : cap.all (fun l => decide (l < bx.length)) = true) {bs : List Trm} {rows : List (List D)} {K : D} (hK : IsS 3 rows K) (hbs : IsT.IsTs bs rows) (hmax : bs.length < 9223372036854775808)
    (hp : ∀ b ∈ bs, ∀ {op n : Int} {K' : D}, IsT b op n K' → ev cfg (.call g ([.agg [I op, I n, .dat K']] ++ cap.map fun l => .ptr l 0) bx) = some (.ret (B (p b)) none)) :
    ev cfg (.call 96 [.dat K, .clo g cap] bx) = some (.ret (B (bs.any p)) none) := by
  have h := idx_ev hcap bs (i := 0) hK rfl hbs (by rw [isTs_len hbs]; exact hmax) hp
  have h2 := ev_step cfg (f84 (r := findT p 0 bs) hK h)
  have h3 := ev_step cfg (f63 hK h2)
  rw [← findT_any p bs 0, h3]
  cases findT p 0 bs with
  | none => rfl
  | some j =>
    have : decide (idxI (some j) ≥ 0) = true := by simp [idxI]
    simp only [this, Option.isSome_some]

theorem deepT_any (d : Int) : ∀ bs : List Trm, bs.any (deepT d) = deepT.go d bs
  | [] => by rw [deepT.go]; rfl
  | b :: bs => by rw [deepT.go, List.any_cons, deepT_any d bs]

def DeepP (b : Trm) : Prop := ∀ {d op n : Int} {K : D}, IsT b op n K → 0 ≤ d → d + depT b ≤ 1000000000 → ∀ bx : List Box, ev cfg (.call 94 [.agg [I op, I n, .dat K], I d] bx) = some (.ret (B (deepT d b)) none)
theorem tdeep_ev : ∀ (b : Trm) {d op n : Int} {K : D}, IsT b op n K → 0 ≤ d → d + depT b ≤ 1000000000 → ∀ bx : List Box, ev cfg (.call 94 [.agg [I op, I n, .dat K], I d] bx) = some (.ret (B (deepT d b)) none)
  | .mk _ _ ks, d, op, n, K, h, hd, hz, bx => by
    rw [IsT] at h
    obtain ⟨rfl, rfl, _, _, rows, hK, hks, hmax⟩ := h
    rw [deepT, ← deepT_any]
    rw [depT] at hz
    refine ev_step cfg (f61 hK fun c => cf_ev (p := deepT (d + 1)) (by simp) hK hks hmax fun b hb op n K' hB => ?_)
    have hle := all_le ks 0 b hb
    obtain ⟨r, hK'⟩ := isT_K hB
    have := (depT_le b).1
    exact ev_step cfg (f82 (d := d) hK' (by simp) (by simp) (wrap_lo (by omega) (by omega)) (all ks b hb hB (by omega) (by omega)))
where
  all : ∀ (bs : List Trm), ∀ b ∈ bs, DeepP b
    | [], b, h => by cases h
    | c :: cs, b, h => (List.mem_cons.1 h).elim (fun e => e ▸ (fun h1 => tdeep_ev c h1)) fun h => all cs b h
  all_le : ∀ (bs : List Trm) (m : Int), ∀ b ∈ bs, depT b ≤ depT.go m bs
  | [], _, b, h => by cases h
  | c :: cs, m, b, h => by
    rw [depT.go]
    rcases List.mem_cons.1 h with h | h
    · subst h
      have := (go_ge cs (if m < depT b then depT b else m))
      split at this <;> split <;> omega
    · exact all_le cs _ b h
  go_ge : ∀ (bs : List Trm) (m : Int), m ≤ depT.go m bs
  | [], m => by rw [depT.go]; omega
  | c :: cs, m => by
    rw [depT.go]
    have := go_ge cs (if m < depT c then depT c else m)
    split at this <;> split <;> omega

theorem shapT_any : ∀ bs : List Trm, bs.any (fun b => !shapT b) = !shapT.go bs
  | [] => by rw [shapT.go]; rfl
  | b :: bs => by rw [shapT.go, List.any_cons, shapT_any bs, Bool.not_and]

theorem nodeOk_1 (n : Int) (l : Nat) : nodeOk 1 n l = ((l : Int) == 0 && decide (n ≥ 0) && decide (n ≤ 1099511627776)) := by
  rw [nodeOk, if_pos rfl]
  have : (l == 0) = ((l : Int) == 0) := by rw [Bool.eq_iff_iff]; simp
  rw [this]
theorem nodeOk_2 (n : Int) (l : Nat) : nodeOk 2 n l = ((l : Int) == 0 && decide (n ≥ 0) && decide (n < 4)) := by
  rw [nodeOk, if_neg (by decide), if_pos rfl]
  have : (l == 0) = ((l : Int) == 0) := by rw [Bool.eq_iff_iff]; simp
  rw [this]

def ShapP (b : Trm) : Prop := ∀ {op n : Int} {K : D}, IsT b op n K → ∀ bx : List Box, ev cfg (.call 95 [.agg [I op, I n, .dat K]] bx) = some (.ret (B (shapT b)) none)
theorem shap_ev : ∀ (b : Trm) {op n : Int} {K : D}, IsT b op n K → ∀ bx : List Box, ev cfg (.call 95 [.agg [I op, I n, .dat K]] bx) = some (.ret (B (shapT b)) none)
  | .mk _ _ ks, op, n, K, h, bx => by
    rw [IsT] at h
    obtain ⟨rfl, rfl, _, _, rows, hK, hks, hmax⟩ := h
    rw [shapT]
    have hrl := isTs_len hks
    by_cases e1 : op = 1
    · subst e1
      rw [ev_step cfg (f62_1 hK hrl), ← nodeOk_1]
      cases hn : nodeOk 1 n ks.length with
      | false => rfl
      | true =>
        rw [nodeOk_1] at hn
        simp at hn
        rw [hn.1.1, shapT.go]; rfl
    · by_cases e2 : op = 2
      · subst e2
        rw [ev_step cfg (f62_2 hK hrl), ← nodeOk_2]
        cases hn : nodeOk 2 n ks.length with
        | false => rfl
        | true =>
          rw [nodeOk_2] at hn
          simp at hn
          rw [hn.1.1, shapT.go]; rfl
      · have h1 : (op == 1) = false := by simpa using e1
        have h2 : (op == 2) = false := by simpa using e2
        have hno : nodeOk op n ks.length = (okOp op && n == 0 && ks.length == arity op) := by rw [nodeOk, if_neg e1, if_neg e2]
        rw [hno]
        by_cases hb : (decide (op < 3) || decide (op > 14) || n != 0) = true
        · rw [ev_step cfg (f62_no hK h1 h2 hb)]
          have : (okOp op && n == 0) = false := by
            rw [Bool.eq_false_iff]
            intro h
            simp only [okOp, Bool.and_eq_true, decide_eq_true_eq, beq_iff_eq] at h
            simp only [Bool.or_eq_true, decide_eq_true_eq, bne_iff_ne, ne_eq] at hb
            omega
          rw [this]; rfl
        · rw [Bool.not_eq_true, Bool.or_eq_false_iff, Bool.or_eq_false_iff] at hb
          obtain ⟨⟨c1, c2⟩, c3⟩ := hb
          have hok : okOp op = true := by
            simp only [okOp, Bool.and_eq_true, decide_eq_true_eq]
            simp only [decide_eq_false_iff_not] at c1 c2
            omega
          have hn : (n == 0) = true := by simpa using c3
          have hkids := fun bx : List Box => cf_ev (p := fun b => !shapT b) (g := 99) (cap := []) (bx := bx) rfl hK hks hmax fun b hb op n K' hB => by
            obtain ⟨r, hK'⟩ := isT_K hB
            exact ev_step cfg (f83 hK' (all ks b hb hB))
          rw [ev_step cfg (f62_op hK hrl h1 h2 c1 c2 c3 (wd hok) hkids), shapT_any, hok, hn]
          have : (!((ks.length : Int) != (arity op : Int))) = (ks.length == arity op) := by rw [Bool.eq_iff_iff]; simp; omega
          rw [this, Bool.not_not]
          rfl
where
  all : ∀ (bs : List Trm), ∀ b ∈ bs, ShapP b
    | [], b, h => by cases h
    | c :: cs, b, h => (List.mem_cons.1 h).elim (fun e => e ▸ (fun h1 => shap_ev c h1)) fun h => all cs b h

theorem twrong_ev (b : Trm) {op n : Int} {K : D} (h : IsT b op n K) (hz : sizeT b ≤ 1000000) (bx : List Box) : ev cfg (.call 90 [.agg [I op, I n, .dat K]] bx) = some (.ret (I (wrongT b)) none) := by
  obtain ⟨r, hK⟩ := isT_K h
  have := (depT_le b).2
  exact ev_step cfg (f43 hK (tdeep_ev b h (by omega) (by omega)) (shap_ev b h))

theorem typT_any (op : Int) : ∀ bs : List Trm, bs.any (fun b => typT b != tyOf (asked op)) = !typT.go op bs
  | [] => by rw [typT.go]; rfl
  | b :: bs => by
    rw [typT.go, List.any_cons, typT_any op bs, Bool.not_and]; rfl

theorem node_op {op n : Int} {l : Nat} (h : nodeOk op n l = true) (e1 : ¬ op = 1) (e2 : ¬ op = 2) : okOp op = true ∧ n = 0 ∧ l = arity op := by
  rw [nodeOk, if_neg e1, if_neg e2] at h
  simp only [Bool.and_eq_true, beq_iff_eq] at h
  exact ⟨h.1.1, h.1.2, h.2⟩

def TypP (b : Trm) : Prop := ∀ {op n : Int} {K : D}, IsT b op n K → shapT b = true → ∀ bx : List Box, ev cfg (.call 91 [.agg [I op, I n, .dat K]] bx) = some (.ret (I (typT b)) none)
theorem typ_ev : ∀ (b : Trm) {op n : Int} {K : D}, IsT b op n K → shapT b = true → ∀ bx : List Box, ev cfg (.call 91 [.agg [I op, I n, .dat K]] bx) = some (.ret (I (typT b)) none)
  | .mk _ _ ks, op, n, K, h, hs, bx => by
    rw [IsT] at h
    obtain ⟨rfl, rfl, _, _, rows, hK, hks, hmax⟩ := h
    rw [shapT, Bool.and_eq_true] at hs
    rw [typT]
    by_cases e : op = 1 ∨ op = 2
    · rw [if_pos e]
      exact ev_step cfg (f44_leaf hK (by simpa using e))
    · rw [if_neg e]
      have e1 : ¬ op = 1 := fun h => e (.inl h)
      have e2 : ¬ op = 2 := fun h => e (.inr h)
      obtain ⟨hok, _, _⟩ := node_op hs.1 e1 e2
      have := ev_step cfg (f44_op (bx := bx) (n := n) (b := ks.any fun b => typT b != tyOf (asked op)) hK (by simpa using e1) (by simpa using e2) (wd hok) fun c => cf_ev (p := fun b => typT b != tyOf (asked op)) (by simp) hK hks hmax fun b hb op' n' K' hB => by
        obtain ⟨r, hK'⟩ := isT_K hB
        exact ev_step cfg (f64 (l := bx.length + 1) (s := bsL (wordL op)) (ar := arity op) (ask := tyOf (asked op)) (out := tyOf (truth op)) hK' (by simp) (by simp) (all ks b hb hB (kids ks hs.2 b hb))))
      rw [this, typT_any]
      cases typT.go op ks <;> rfl
where
  all : ∀ (bs : List Trm), ∀ b ∈ bs, TypP b
    | [], b, h => by cases h
    | c :: cs, b, h => (List.mem_cons.1 h).elim (fun e => e ▸ (fun h1 => typ_ev c h1)) fun h => all cs b h
  kids : ∀ (bs : List Trm), shapT.go bs = true → ∀ b ∈ bs, shapT b = true
  | [], _, b, h => by cases h
  | c :: cs, hs, b, h => by
    rw [shapT.go, Bool.and_eq_true] at hs
    rcases List.mem_cons.1 h with h | h
    · subst h; exact hs.1
    · exact kids cs hs.2 b h

/-- what both Checks answer -/
def checkT (t : Trm) : Int × Int := if wrongT t = 0 then (if typT t = 0 then (0, 30) else (typT t, 0)) else (0, wrongT t)

theorem wrongT_zero {t : Trm} (h : wrongT t = 0) : deepT 1 t = false ∧ shapT t = true := by
  unfold wrongT at h
  split at h
  · cases h
  · rename_i hd
    split at h
    · rename_i hs
      exact ⟨by simpa using hd, hs⟩
    · cases h

theorem check_ev (b : Trm) {op n : Int} {K : D} (h : IsT b op n K) (hz : sizeT b ≤ 1000000) (bx : List Box) : ev cfg (.call 82 [.agg [I op, I n, .dat K]] bx) = some (.ret (.tup [I (checkT b).1, I (checkT b).2]) none) := by
  obtain ⟨r, hK⟩ := isT_K h
  unfold checkT
  by_cases hw : wrongT b = 0
  · rw [if_pos hw]
    have hw' := twrong_ev b h hz
    rw [hw] at hw'
    rw [ev_step cfg (f21_ok hK hw' (typ_ev b h (wrongT_zero hw).2))]
    by_cases ht : typT b = 0
    · rw [if_pos ht, ht]; rfl
    · rw [if_neg ht]
      have : (typT b == 0) = false := by simpa using ht
      rw [this]; rfl
  · rw [if_neg hw]
    exact ev_step cfg (f21_bad hK (by simpa using hw) (twrong_ev b h hz))

end Go.Proofs.YtifckjhggamefaaDoor
namespace Go.Proofs.YtifckjhggamefaaDoor
open Go Go.Vx
set_option maxRecDepth 10000

def sizeB : Blk → Int
  | .mk _ _ _ ks _ => 1 + go ks
where
  go : List Blk → Int
  | [] => 0
  | b :: bs => sizeB b + go bs

def deepB : Blk → Int
  | .mk _ _ _ ks _ => go 0 ks + 1
where
  go (m : Int) : List Blk → Int
  | [] => m
  | b :: bs => go (if m < deepB b then deepB b else m) bs

def badL (x : Int × Int × Int) : Bool := decide (x.1 < -1) || decide (x.2.1 < -1) || decide (x.2.2 < -1)
def badOne : Blk → Bool
  | .mk k n a _ ls => decide (k < 1) || decide (k > 10) || decide (n < 0) || decide (a < 0) || ls.any badL
def badB : Blk → Bool
  | .mk k n a ks ls => badOne (.mk k n a ks ls) || go ks
where
  go : List Blk → Bool
  | [] => false
  | b :: bs => badB b || go bs

theorem sizeB_pos : ∀ b, 1 ≤ sizeB b
  | .mk _ _ _ ks _ => by rw [sizeB]; have := go ks; omega
where
  go : ∀ bs, 0 ≤ sizeB.go bs
  | [] => by rw [sizeB.go]; omega
  | b :: bs => by rw [sizeB.go]; have := sizeB_pos b; have := go bs; omega

theorem deepB_le : ∀ b, 1 ≤ deepB b ∧ deepB b ≤ sizeB b
  | .mk _ _ _ ks _ => by rw [sizeB, deepB]; have := go ks 0 (by omega); omega
where
  go : ∀ (bs : List Blk) (m : Int), 0 ≤ m → m ≤ deepB.go m bs ∧ deepB.go m bs ≤ m + sizeB.go bs
  | [], m, h => by rw [sizeB.go, deepB.go]; omega
  | b :: bs, m, h => by
    rw [sizeB.go, deepB.go]
    have h1 := deepB_le b
    have h2 := sizeB_pos.go bs
    split
    · have := go bs (deepB b) (by omega); omega
    · have := go bs m h; omega

theorem bigB_size : ∀ (b : Blk) (m d : Int), ¬ (bigB m d b).1 = true → sizeB b ≤ m - (bigB m d b).2
  | .mk k n a ks ls, m, d, h => by
    rw [bigB] at h ⊢
    split at h
    · exact absurd rfl h
    · rename_i hc
      rw [if_neg hc, sizeB]
      have := go ks (m - 1) (d + 1) h
      omega
where
  go : ∀ (bs : List Blk) (m d : Int), ¬ (bigB.bigs m d bs).1 = true → sizeB.go bs ≤ m - (bigB.bigs m d bs).2
  | [], m, d, _ => by rw [sizeB.go, bigB.bigs]; show 0 ≤ m - m; omega
  | b :: bs, m, d, h => by
    rw [bigB.bigs] at h ⊢
    split at h
    · exact absurd rfl h
    · rename_i hc
      rw [if_neg hc, sizeB.go]
      have h1 := bigB_size b m d hc
      have h2 := go bs _ d h
      omega

theorem isB_K {b : Blk} {k n a : Int} {K L : D} (h : IsB b k n a K L) : (∃ r, IsS 5 r K) ∧ ∃ r, IsS 3 r L := by
  cases b
  rw [IsB] at h
  obtain ⟨_, _, _, _, _, _, rows, h1, _, _, h2, _⟩ := h
  exact ⟨⟨_, h1⟩, ⟨_, h2⟩⟩

theorem deep_ev : ∀ (b : Blk) {k n a : Int} {K L : D}, IsB b k n a K L → sizeB b ≤ 1000000 → ∀ bx : List Box, ev cfg (.call 34 [.agg [I k, I n, I a, .dat K, .dat L]] bx) = some (.ret (I (deepB b)) none)
  | .mk k n a ks ls, _, _, _, K, L, h, hz, bx => by
    rw [IsB] at h
    obtain ⟨rfl, rfl, rfl, _, _, _, rows, hK, hks, hmax, hL, _, _⟩ := h
    have hd := deepB_le.go ks 0 (by omega)
    rw [sizeB] at hz
    rw [deepB]
    exact ev_step cfg (f57 hK hL (wrap_lo (by omega) (by omega)) fun c hc => loop ks (i := 0) (m := 0) hK rfl hks (by rw [isBs_len hks]; exact hmax) (by omega) hc)
where
  loop : ∀ (bs : List Blk) {rows rs : List (List D)} {K : D} {m : Int} {i : Nat} {bx : List Box} {c : Box}, IsS 5 rows K → rows.drop i = rs → IsB.IsBs bs rs → rows.length < 9223372036854775808 → sizeB.go bs ≤ 1000000 → c.all (cellLt (bx.length + 1)) = true →
    ev cfg (.loop 34 3 ⟨(.dead :: .dead :: .dead :: I m :: .dead :: .dead :: .dead :: .dat K :: I rows.length :: I i :: .dead :: .dead :: .dead :: .dead :: .dead :: .dead :: .dead :: .dead :: .dead :: .dead :: []), bx ++ [c], bx.length, none, false⟩) = some (.loop (.exit 0) ⟨(.dead :: .dead :: .dead :: I (deepB.go m bs) :: .dead :: .dead :: .dead :: .dead :: .dead :: .dead :: .dead :: .dead :: .dead :: .dead :: .dead :: .dead :: .dead :: .dead :: .dead :: .dead :: []), bx ++ [c], bx.length, none, false⟩)
  | [], rows, rs, K, m, i, bx, c, hK, hr, hbs, hmax, hz, hc => by
    rw [IsB.IsBs] at hbs
    subst hbs
    rw [deepB.go]
    exact ev_step cfg (e57 hc (drop_nil hr))
  | b :: bs, rows, rs, K, m, i, bx, c, hK, hr, hbs, hmax, hz, hc => by
    rw [IsB.IsBs] at hbs
    obtain ⟨k, n, a, K', L', rest, rfl, hB, hrest⟩ := hbs
    obtain ⟨hget, hr', hlt⟩ := drop_cons hr
    rw [sizeB.go] at hz
    have p1 := sizeB_pos b
    have p2 := sizeB_pos.go bs
    rw [deepB.go]
    exact ev_step cfg ((r57 hK hc hget hlt hmax (isB_one hB).1 (isB_one hB).2 (deep_ev b hB (by omega))).trans (loop bs (i := i + 1) hK hr' hrest hmax (by omega) hc))

def eachB {σ : Type} (st : Blk → σ → σ) : Blk → σ → σ
  | .mk k n a ks ls, x => go ks (st (.mk k n a ks ls) x)
where
  go : List Blk → σ → σ
  | [], x => x
  | b :: bs, x => go bs (eachB st b x)

theorem each_ev {σ : Type} (em : σ → Box) (st : Blk → σ → σ) (g : FuncId) (l : Nat)
    (hg : ∀ (b : Blk) (k n a : Int) (K L : D) (x : σ) (bx : List Box), IsB b k n a K L → bx[l]? = some (em x) → ev cfg (.call g [.agg [I k, I n, I a, .dat K, .dat L], .ptr l 0] bx) = some (.ret (.tup []) (some ⟨bx.set l (em (st b x)), l, false⟩))) :
    ∀ (b : Blk) {k n a : Int} {K L : D} {x : σ} {bx : List Box}, IsB b k n a K L → bx[l]? = some (em x) → ev cfg (.call 30 [.agg [I k, I n, I a, .dat K, .dat L], .clo g [l]] bx) = some (.ret (.tup []) (some ⟨bx.set l (em (eachB st b x)), l, false⟩))
  | .mk _ _ _ ks ls, k, n, a, K, L, x, bx, h, hb => by
    have h0 := h
    rw [IsB] at h
    obtain ⟨rfl, rfl, rfl, _, _, _, rows, hK, hks, hmax, hL, _, _⟩ := h
    have hl : l < bx.length := (List.getElem?_eq_some_iff.1 hb).1
    rw [eachB]
    refine ev_step cfg (f39 hK hL hl hb (fun bx' hb' => hg _ _ _ _ _ _ x bx' h0 hb') fun c hc => ?_)
    have := loop ks (bx := bx.set l (em (st (.mk k n a ks ls) x))) (x := st (.mk k n a ks ls) x) (i := 0) (c := c) hK rfl hks (by rw [isBs_len hks]; exact hmax) (by simp [hl]) (by simpa using hc) (some l) (.inr rfl) (.inl rfl)
    simp only [List.length_set, List.set_set] at this
    exact this
where
  loop : ∀ (bs : List Blk) {rows rs : List (List D)} {K : D} {x : σ} {i : Nat} {bx : List Box} {c : Box}, IsS 5 rows K → rows.drop i = rs → IsB.IsBs bs rs → rows.length < 9223372036854775808 → bx[l]? = some (em x) → c.all (cellLt (bx.length + 1)) = true → ∀ lo : Option Nat, lo = none ∨ lo = some l → (lo = some l ∨ bs ≠ []) →
    ev cfg (.loop 30 3 ⟨(.dead :: .clo g [l] :: .dead :: .dead :: .dead :: .dead :: .dead :: .dead :: .dead :: .dead :: .dat K :: I rows.length :: I i :: .dead :: .dead :: .dead :: .dead :: .dead :: .dead :: .dead :: []), bx ++ [c], bx.length, lo, false⟩) = some (.loop (.exit 0) ⟨(.dead :: .dead :: .dead :: .dead :: .dead :: .dead :: .dead :: .dead :: .dead :: .dead :: .dead :: .dead :: .dead :: .dead :: .dead :: .dead :: .dead :: .dead :: .dead :: .dead :: []), bx.set l (em (eachB.go st bs x)) ++ [c], bx.length, some l, false⟩)
  | [], rows, rs, K, x, i, bx, c, hK, hr, hbs, hmax, hb, hc, lo, hlo, hne => by
    have hl : l < bx.length := (List.getElem?_eq_some_iff.1 hb).1
    rw [IsB.IsBs] at hbs
    subst hbs
    rw [eachB.go, set_same hb]
    rcases hne with rfl | h
    · exact ev_step cfg (e39 hl hc (drop_nil hr) _)
    · exact absurd rfl h
  | b :: bs, rows, rs, K, x, i, bx, c, hK, hr, hbs, hmax, hb, hc, lo, hlo, _ => by
    have hl : l < bx.length := (List.getElem?_eq_some_iff.1 hb).1
    rw [IsB.IsBs] at hbs
    obtain ⟨k, n, a, K', L', rest, rfl, hB, hrest⟩ := hbs
    obtain ⟨hget, hr', hlt⟩ := drop_cons hr
    rw [eachB.go]
    have h1 := r39 (g := g) hK hl hb hc hget hlt hmax (isB_one hB).1 (isB_one hB).2 lo hlo fun bx' hb' => each_ev em st g l hg b hB hb'
    have h2 := loop bs (bx := bx.set l (em (eachB st b x))) (x := eachB st b x) (i := i + 1) (c := c) hK hr' hrest hmax (by simp [hl]) (by simpa using hc) (some l) (.inr rfl) (.inl rfl)
    simp only [List.length_set, List.set_set] at h2
    exact ev_step cfg (h1.trans h2)

end Go.Proofs.YtifckjhggamefaaDoor
namespace Go.Proofs.YtifckjhggamefaaDoor
open Go Go.Vx
set_option maxRecDepth 10000

def stS (_ : Blk) (n : Int) : Int := IntKind.wrap .i64 (n + 1)
theorem each_size : ∀ (b : Blk) (n : Int), 0 ≤ n → n + sizeB b ≤ 1000000000 → eachB stS b n = n + sizeB b
  | .mk k n a ks ls, x, h, h2 => by
    rw [sizeB] at h2 ⊢
    have := sizeB_pos.go ks
    rw [eachB, stS, wrap_lo (by omega) (by omega), go ks (x + 1) (by omega) (by omega)]
    omega
where
  go : ∀ (bs : List Blk) (n : Int), 0 ≤ n → n + sizeB.go bs ≤ 1000000000 → eachB.go stS bs n = n + sizeB.go bs
  | [], n, _, _ => by rw [eachB.go, sizeB.go, Int.add_zero]
  | b :: bs, n, h, h2 => by
    rw [sizeB.go] at h2 ⊢
    have := sizeB_pos b
    have := sizeB_pos.go bs
    rw [eachB.go, each_size b n h (by omega), go bs (n + sizeB b) (by omega) (by omega)]
    omega

theorem size_ev (b : Blk) {k n a : Int} {K L : D} (h : IsB b k n a K L) (hz : sizeB b ≤ 1000000) (bx : List Box) : ev cfg (.call 12 [.agg [I k, I n, I a, .dat K, .dat L]] bx) = some (.ret (I (sizeB b)) none) := by
  obtain ⟨⟨_, hK⟩, _, hL⟩ := isB_K h
  refine ev_step cfg (f15 hK hL fun c => ?_)
  have := each_ev (fun n : Int => [I n]) stS 31 (bx.length + 1) (fun b k n a K L x bx' hb hx => by
    obtain ⟨⟨_, hK⟩, _, hL⟩ := isB_K hb
    exact ev_step cfg (f40 hK hL (List.getElem?_eq_some_iff.1 hx).1 hx)) b (x := 0) (bx := bx ++ [c, [I 0]]) h (by rw [app_get]; rfl)
  rw [this, each_size b 0 (by omega) (by omega), app_set]
  simp

def stW (b : Blk) (v : Bool) : Bool := v || badOne b
theorem each_wrong : ∀ (b : Blk) (v : Bool), eachB stW b v = (v || badB b)
  | .mk k n a ks ls, v => by rw [eachB, badB, go ks, stW, Bool.or_assoc]
where
  go : ∀ (bs : List Blk) (v : Bool), eachB.go stW bs v = (v || badB.go bs)
  | [], v => by rw [eachB.go, badB.go, Bool.or_false]
  | b :: bs, v => by rw [eachB.go, badB.go, each_wrong b, go bs, Bool.or_assoc]

theorem wrong_loop : ∀ (ls : List (Int × Int × Int)) {lr : List (List D)} {L : D} {v : Bool} {l i : Nat} {bx : List Box} {c : Box}, IsS 3 lr L → lr.drop i = ls.map lnkD → lr.length < 9223372036854775808 → bx[l]? = some [B v] → c.all (cellLt (bx.length + 1)) = true →
    ev cfg (.loop 41 3 ⟨(.dead :: .ptr l 0 :: .dead :: .dead :: .dead :: .dead :: .dead :: .dead :: .dead :: .dead :: .dead :: .dead :: .dead :: .dead :: .dead :: .dead :: .dead :: .dead :: .dead :: .dead :: .dead :: .dead :: .dead :: .dead :: .dead :: .dead :: .dead :: .dat L :: I lr.length :: I i :: .dead :: .dead :: .dead :: .dead :: .dead :: .dead :: .dead :: .dead :: .dead :: .dead :: .dead :: .dead :: .dead :: .dead :: .dead :: .dead :: .dead :: .dead :: .dead :: .dead :: []), bx ++ [c], bx.length, some l, false⟩) = some (.loop (.exit 0) ⟨(.dead :: .dead :: .dead :: .dead :: .dead :: .dead :: .dead :: .dead :: .dead :: .dead :: .dead :: .dead :: .dead :: .dead :: .dead :: .dead :: .dead :: .dead :: .dead :: .dead :: .dead :: .dead :: .dead :: .dead :: .dead :: .dead :: .dead :: .dead :: .dead :: .dead :: .dead :: .dead :: .dead :: .dead :: .dead :: .dead :: .dead :: .dead :: .dead :: .dead :: .dead :: .dead :: .dead :: .dead :: .dead :: .dead :: .dead :: .dead :: .dead :: .dead :: []), bx.set l [B (v || ls.any badL)] ++ [c], bx.length, some l, false⟩)
  | [], lr, L, v, l, i, bx, c, hL, hr, hmax, hb, hc => by
    have hl : l < bx.length := (List.getElem?_eq_some_iff.1 hb).1
    rw [List.any_nil, Bool.or_false, set_same hb]
    exact ev_step cfg (e58 hl hc (drop_nil hr))
  | x :: ls, lr, L, v, l, i, bx, c, hL, hr, hmax, hb, hc => by
    have hl : l < bx.length := (List.getElem?_eq_some_iff.1 hb).1
    rw [List.map_cons] at hr
    obtain ⟨hget, hr', hlt⟩ := drop_cons hr
    have h1 := r58 (f := x.1) (t := x.2.1) (w := x.2.2) hL hl hb hc hget hlt hmax (some l) rfl
    have h2 := wrong_loop ls (bx := bx.set l [B (v || decide (x.1 < -1) || decide (x.2.1 < -1) || decide (x.2.2 < -1))]) (i := i + 1) (c := c) (l := l) hL hr' hmax (get_set hl _) (by simpa using hc)
    simp only [List.length_set, List.set_set] at h2
    rw [List.any_cons, badL, ← Bool.or_assoc, ← Bool.or_assoc, ← Bool.or_assoc]
    exact ev_step cfg (h1.trans h2)

theorem wrong1_ev (b : Blk) (k n a : Int) (K L : D) (v : Bool) (l : Nat) (bx : List Box) (h : IsB b k n a K L) (hb : bx[l]? = some [B v]) : ev cfg (.call 41 [.agg [I k, I n, I a, .dat K, .dat L], .ptr l 0] bx) = some (.ret (.tup []) (some ⟨bx.set l [B (stW b v)], l, false⟩)) := by
  cases b with
  | mk k' n' a' ks ls =>
    rw [IsB] at h
    obtain ⟨rfl, rfl, rfl, _, _, _, rows, hK, hks, hmax, hL, hlm, _⟩ := h
    have hl : l < bx.length := (List.getElem?_eq_some_iff.1 hb).1
    refine ev_step cfg (f58 hK hL hl hb fun c hc => ?_)
    have := wrong_loop ls (bx := bx.set l [B (v || decide (k < 1) || decide (k > 10) || decide (n < 0) || decide (a < 0))]) (i := 0) (c := c) (l := l) hL rfl (by simpa using hlm) (get_set hl _) (by simpa using hc)
    simp only [List.length_set, List.set_set] at this
    rw [stW, badOne, ← Bool.or_assoc, ← Bool.or_assoc, ← Bool.or_assoc, ← Bool.or_assoc]
    exact this

theorem wrong_ev (b : Blk) {k n a : Int} {K L : D} (h : IsB b k n a K L) (bx : List Box) : ev cfg (.call 23 [.agg [I k, I n, I a, .dat K, .dat L]] bx) = some (.ret (B (badB b)) none) := by
  obtain ⟨⟨_, hK⟩, _, hL⟩ := isB_K h
  refine ev_step cfg (f34 hK hL fun c => ?_)
  have := each_ev (fun n : Bool => [B n]) stW 41 (bx.length + 1) (fun b k n a K L x bx' hb hx => wrong1_ev b k n a K L x _ bx' hb hx) b (x := false) (bx := bx ++ [c, [B false]]) h (by rw [app_get]; rfl)
  rw [this, each_wrong, Bool.false_or, app_set]
  simp

theorem digits_ev (n : Nat) (h : n < 9223372036854775808) (bx : List Box) : ev cfg (.call 42 [I n] bx) = some (.ret (S (digN n)) none) := by
  induction n using Nat.strongRecOn generalizing bx with
  | ind n ih =>
    have h0 : decide ((n : Int) < 0) = false := decide_eq_false (by omega)
    rw [digN]
    by_cases h1 : n < 10
    · rw [if_pos h1]
      exact ev_step cfg (f59_one h0 (decide_eq_true (by omega)) (enc_chr n h1))
    · rw [if_neg h1]
      have h2 := digN_size 18 (n / 10) (by omega)
      have h3 := chr_size (n % 10)
      exact ev_step cfg (f59_more h0 (decide_eq_false (by omega)) (enc_chr (n % 10) (Nat.mod_lt _ (by omega))) (wrap_lo (by show -9223372036854775808 ≤ ((n / 10 : Nat) : Int); omega) (by show ((n / 10 : Nat) : Int) ≤ _; omega)) (by omega) fun bx => ih (n / 10) (by omega) (by omega) bx)

theorem dig_ev (n : Int) (h : i64 n) (bx : List Box) : ev cfg (.call 42 [I n] bx) = some (.ret (S (dig n)) none) := by
  obtain ⟨h1, h2⟩ := h
  rw [dig]
  by_cases h0 : n < 0
  · rw [if_pos h0]
    exact ev_step cfg (f59_neg (decide_eq_true h0))
  · rw [if_neg h0]
    have := digits_ev n.toNat (by omega) bx
    rw [Int.toNat_of_nonneg (by omega)] at this
    exact this

end Go.Proofs.YtifckjhggamefaaDoor
namespace Go.Proofs.YtifckjhggamefaaDoor
open Go Go.Vx
set_option maxRecDepth 10000
set_option maxHeartbeats 1000000

theorem bsz (l : List UInt8) : (ByteArray.mk l.toArray).size = l.length := by simp [ByteArray.size]

/-- not too much in each block -/
def okB : Blk → Prop
  | .mk _ _ _ ks ls => ks.length ≤ 200 ∧ ls.length ≤ 100 ∧ go ks
where
  go : List Blk → Prop
  | [] => True
  | b :: bs => okB b ∧ go bs

theorem bigB_ok : ∀ (b : Blk) (m d : Int), ¬ (bigB m d b).1 = true → okB b
  | .mk k n a ks ls, m, d, h => by
    rw [bigB] at h
    split at h
    · exact absurd rfl h
    · rename_i hc
      simp only [Bool.or_eq_true, decide_eq_true_eq, not_or] at hc
      rw [okB]
      exact ⟨by omega, by omega, go ks _ _ h⟩
where
  go : ∀ (bs : List Blk) (m d : Int), ¬ (bigB.bigs m d bs).1 = true → okB.go bs
  | [], m, d, _ => by rw [okB.go]; trivial
  | b :: bs, m, d, h => by
    rw [bigB.bigs] at h
    split at h
    · exact absurd rfl h
    · rename_i hc
      rw [okB.go]
      exact ⟨bigB_ok b m d hc, go bs _ d h⟩

def nmB (k : Int) : ByteArray := if k = 3 then ⟨#[115, 101, 113]⟩ else if k = 4 then ⟨#[112, 97, 114]⟩ else if k = 5 then ⟨#[97, 108, 116]⟩ else if k = 6 then ⟨#[112, 105, 99, 107]⟩ else if k = 7 then ⟨#[108, 111, 111, 112]⟩ else ⟨#[119, 101, 98]⟩
def linkT (x : Int × Int × Int) : ByteArray := ((((((⟨#[32, 91]⟩ ++ dig x.1) ++ ⟨#[32]⟩) ++ dig x.2.1) ++ ⟨#[32]⟩) ++ dig x.2.2) ++ ⟨#[93]⟩)
def linksT (s : ByteArray) : List (Int × Int × Int) → ByteArray
  | [] => s
  | x :: ls => linksT (s ++ linkT x) ls
def headT (k n a : Int) : ByteArray :=
  if k = 3 ∨ k = 9 then ⟨#[40]⟩ ++ nmB k else if k = 7 then ((⟨#[40]⟩ ++ nmB k) ++ (⟨#[58]⟩ ++ dig n)) ++ (⟨#[47]⟩ ++ dig a) else (⟨#[40]⟩ ++ nmB k) ++ (⟨#[58]⟩ ++ dig n)
def textB : Blk → ByteArray
  | .mk k n a ks ls => if k = 1 then ⟨#[45]⟩ else if k = 2 then dig n else if k = 8 then ⟨#[103]⟩ ++ dig n else if k = 10 then ⟨#[42]⟩ else
    if k = 9 then linksT (go (headT k n a) ks) ls ++ ⟨#[41]⟩ else go (headT k n a) ks ++ ⟨#[41]⟩
where
  go (s : ByteArray) : List Blk → ByteArray
  | [] => s
  | b :: bs => go (s ++ (⟨#[32]⟩ ++ textB b)) bs

theorem nmB_size (k : Int) : (nmB k).size ≤ 4 := by
  unfold nmB
  repeat' split
  all_goals decide
theorem linkT_size (x : Int × Int × Int) (h : i64 x.1 ∧ i64 x.2.1 ∧ i64 x.2.2) : (linkT x).size ≤ 62 := by
  unfold linkT
  have h1 := dig_size h.1
  have h2 := dig_size h.2.1
  have h3 := dig_size h.2.2
  simp only [ByteArray.size_append, bsz, List.length_cons, List.length_nil]
  omega
theorem linksT_size : ∀ (ls : List (Int × Int × Int)) (s : ByteArray), (∀ x ∈ ls, i64 x.1 ∧ i64 x.2.1 ∧ i64 x.2.2) → (linksT s ls).size ≤ s.size + 62 * ls.length
  | [], s, _ => by rw [linksT]; simp
  | x :: ls, s, h => by
    rw [linksT]
    have h1 := linksT_size ls (s ++ linkT x) fun y hy => h y (List.mem_cons_of_mem _ hy)
    have h2 := linkT_size x (h x (List.mem_cons_self ..))
    rw [ByteArray.size_append] at h1
    rw [List.length_cons]
    omega
theorem headT_size (k n a : Int) (hn : i64 n) (ha : i64 a) : (headT k n a).size ≤ 46 := by
  have h1 := dig_size hn
  have h2 := dig_size ha
  have h3 := nmB_size k
  unfold headT
  repeat' split
  all_goals
    simp only [ByteArray.size_append, bsz, List.length_cons, List.length_nil]
    omega

/-- all numbers are numbers -/
def okN : Blk → Prop
  | .mk _ n a ks ls => i64 n ∧ i64 a ∧ (∀ x ∈ ls, i64 x.1 ∧ i64 x.2.1 ∧ i64 x.2.2) ∧ go ks
where
  go : List Blk → Prop
  | [] => True
  | b :: bs => okN b ∧ go bs

theorem isB_okN : ∀ (b : Blk) {k n a : Int} {K L : D}, IsB b k n a K L → okN b
  | .mk _ _ _ ks ls, k, n, a, K, L, h => by
    rw [IsB] at h
    obtain ⟨rfl, rfl, rfl, h1, h2, h3, rows, hK, hks, hmax, hL, hlm, hx⟩ := h
    rw [okN]
    exact ⟨h2, h3, hx, go ks hks⟩
where
  go : ∀ (bs : List Blk) {rows : List (List D)}, IsB.IsBs bs rows → okN.go bs
  | [], _, _ => by rw [okN.go]; trivial
  | b :: bs, _, h => by
    rw [IsB.IsBs] at h
    obtain ⟨k, n, a, K', L', rest, rfl, hB, hrest⟩ := h
    rw [okN.go]
    exact ⟨isB_okN b hB, go bs hrest⟩

theorem textB_size : ∀ b, okB b → okN b → ((textB b).size : Int) ≤ 8000 * sizeB b - 1
  | .mk k n a ks ls, h, hn => by
    rw [okB] at h
    rw [okN] at hn
    obtain ⟨h1, h2, h3⟩ := h
    obtain ⟨n1, n2, n3, n4⟩ := hn
    rw [sizeB]
    have p := sizeB_pos.go ks
    have d1 := dig_size n1
    have g := go ks (headT k n a) h3 n4
    have g2 := linksT_size ls (textB.go (headT k n a) ks) n3
    have g3 := headT_size k n a n1 n2
    rw [textB]
    repeat' split
    all_goals
      try simp only [ByteArray.size_append, bsz, List.length_cons, List.length_nil]
      omega
where
  go : ∀ (bs : List Blk) (s : ByteArray), okB.go bs → okN.go bs → ((textB.go s bs).size : Int) ≤ s.size + 8000 * sizeB.go bs
  | [], s, _, _ => by rw [textB.go, sizeB.go]; omega
  | b :: bs, s, h, hn => by
    rw [okB.go] at h
    rw [okN.go] at hn
    rw [textB.go, sizeB.go]
    have h1 := textB_size b h.1 hn.1
    have h2 := go bs (s ++ (⟨#[32]⟩ ++ textB b)) h.2 hn.2
    simp only [ByteArray.size_append, bsz, List.length_cons, List.length_nil] at h2
    omega

theorem links_ev : ∀ (ls : List (Int × Int × Int)) {lr : List (List D)} {L : D} {s : ByteArray} {i : Nat} {bx : List Box} {c : Box}, IsS 3 lr L → lr.drop i = ls.map lnkD → lr.length < 9223372036854775808 → c.all (cellLt (bx.length + 1)) = true → (∀ x ∈ ls, i64 x.1 ∧ i64 x.2.1 ∧ i64 x.2.2) → s.size + 62 * ls.length ≤ 100000000000 →
    ev cfg (.loop 24 22 ⟨(.dead :: .dead :: .dead :: S s :: .dead :: .dead :: .dead :: .dead :: .dead :: .dead :: .dead :: .dead :: .dead :: .dead :: .dead :: .dead :: .dead :: .dead :: .dead :: .dead :: .dead :: .dead :: .dead :: .dead :: .dead :: .dead :: .dead :: .dead :: .dead :: .dead :: .dead :: .dead :: .dead :: .dead :: .dead :: .dead :: .dead :: .dead :: .dead :: .dead :: .dead :: .dead :: .dead :: .dead :: .dead :: .dead :: .dead :: .dead :: .dead :: .dead :: .dead :: .dead :: .dead :: .dead :: .dead :: .dead :: .dead :: .dead :: .dead :: .dead :: .dead :: .dead :: .dead :: .dead :: .dead :: .dead :: .dead :: .dead :: .dead :: .dead :: .dat L :: I lr.length :: I i :: .dead :: .dead :: .dead :: .dead :: .dead :: .dead :: .dead :: .dead :: .dead :: .dead :: .dead :: .dead :: .dead :: .dead :: .dead :: .dead :: .dead :: .dead :: .dead :: .dead :: .dead :: .dead :: .dead :: []), bx ++ [c], bx.length, none, false⟩) = some (.loop (.exit 3) ⟨(.dead :: .dead :: .dead :: S (linksT s ls) :: .dead :: .dead :: .dead :: .dead :: .dead :: .dead :: .dead :: .dead :: .dead :: .dead :: .dead :: .dead :: .dead :: .dead :: .dead :: .dead :: .dead :: .dead :: .dead :: .dead :: .dead :: .dead :: .dead :: .dead :: .dead :: .dead :: .dead :: .dead :: .dead :: .dead :: .dead :: .dead :: .dead :: .dead :: .dead :: .dead :: .dead :: .dead :: .dead :: .dead :: .dead :: .dead :: .dead :: .dead :: .dead :: .dead :: .dead :: .dead :: .dead :: .dead :: .dead :: .dead :: .dead :: .dead :: .dead :: .dead :: .dead :: .dead :: .dead :: .dead :: .dead :: .dead :: .dead :: .dead :: .dead :: .dead :: .dead :: .dead :: .dead :: .dead :: .dead :: .dead :: .dead :: .dead :: .dead :: .dead :: .dead :: .dead :: .dead :: .dead :: .dead :: .dead :: .dead :: .dead :: .dead :: .dead :: .dead :: .dead :: .dead :: .dead :: .dead :: .dead :: []), bx ++ [c], bx.length, none, false⟩)
  | [], lr, L, s, i, bx, c, hL, hr, hmax, hc, hx, hs => by
    rw [linksT]
    exact ev_step cfg (e35b hc (drop_nil hr))
  | x :: ls, lr, L, s, i, bx, c, hL, hr, hmax, hc, hx, hs => by
    rw [List.map_cons] at hr
    obtain ⟨hget, hr', hlt⟩ := drop_cons hr
    obtain ⟨x1, x2, x3⟩ := hx x (List.mem_cons_self ..)
    have d1 := dig_size x1
    have d2 := dig_size x2
    have d3 := dig_size x3
    rw [List.length_cons] at hs
    have h1 := r35b (f := x.1) (t := x.2.1) (w := x.2.2) (s := s) hL hc hget hlt hmax (dig_ev _ x1) (dig_ev _ x2) (dig_ev _ x3)
      (by simp only [ByteArray.size_append, bsz, List.length_cons, List.length_nil]; omega) (by simp only [ByteArray.size_append, bsz, List.length_cons, List.length_nil]; omega) (by simp only [ByteArray.size_append, bsz, List.length_cons, List.length_nil]; omega)
      (by simp only [ByteArray.size_append, bsz, List.length_cons, List.length_nil]; omega) (by simp only [ByteArray.size_append, bsz, List.length_cons, List.length_nil]; omega) (by simp only [ByteArray.size_append, bsz, List.length_cons, List.length_nil]; omega)
      (by simp only [ByteArray.size_append, bsz, List.length_cons, List.length_nil]; omega)
    have h2 := linkT_size x ⟨x1, x2, x3⟩
    rw [linksT]
    exact ev_step cfg (h1.trans (links_ev ls (i := i + 1) (s := s ++ linkT x) hL hr' hmax hc (fun y hy => hx y (List.mem_cons_of_mem _ hy)) (by rw [ByteArray.size_append]; omega)))

theorem kind_of {k : Int} (h1 : decide (k < 1) = false) (h2 : decide (k > 10) = false) : k = 1 ∨ k = 2 ∨ k = 3 ∨ k = 4 ∨ k = 5 ∨ k = 6 ∨ k = 7 ∨ k = 8 ∨ k = 9 ∨ k = 10 := by
  simp only [decide_eq_false_iff_not] at h1 h2; omega

theorem text_ev : ∀ (b : Blk) {k n a : Int} {K L : D}, IsB b k n a K L → badB b = false → okB b → sizeB b ≤ 1000000 → ∀ bx : List Box, ev cfg (.call 24 [.agg [I k, I n, I a, .dat K, .dat L]] bx) = some (.ret (S (textB b)) none)
  | .mk _ _ _ ks ls, k, n, a, K, L, h, hbad, hok, hz, bx => by
    have hnn := isB_okN _ h
    rw [IsB] at h
    obtain ⟨rfl, rfl, rfl, ik, hn, ha, rows, hK, hks, hmax, hL, hlm, hx⟩ := h
    rw [badB, badOne, Bool.or_eq_false_iff, Bool.or_eq_false_iff, Bool.or_eq_false_iff, Bool.or_eq_false_iff, Bool.or_eq_false_iff] at hbad
    obtain ⟨⟨⟨⟨⟨b1, b2⟩, b3⟩, b4⟩, b5⟩, b6⟩ := hbad
    rw [okN] at hnn
    rw [okB] at hok
    obtain ⟨o1, o2, o3⟩ := hok
    rw [sizeB] at hz
    have p := sizeB_pos.go ks
    have d1 := dig_size hn
    have d2 := dig_size ha
    have g3 := headT_size k n a hn ha
    have g := textB_size.go ks (headT k n a) o3 hnn.2.2.2
    have g2 := linksT_size ls (textB.go (headT k n a) ks) hx
    have hloop := fun (bx : List Box) (c : Box) hc => loop ks (i := 0) (s := headT k n a) (bx := bx) (c := c) hK rfl hks (by rw [isBs_len hks]; exact hmax) b6 o3 hnn.2.2.2 (by omega) (by omega) hc
    have hlink := fun (bx : List Box) (c : Box) hc => links_ev ls (i := 0) (s := textB.go (headT k n a) ks) (bx := bx) (c := c) hL rfl (by simpa using hlm) hc hx (by omega)
    rcases kind_of b1 b2 with rfl | rfl | rfl | rfl | rfl | rfl | rfl | rfl | rfl | rfl
    · exact ev_step cfg (f35_1 hK hL)
    · exact ev_step cfg (f35_2 hK hL (dig_ev n hn))
    · exact ev_step cfg (f35_3 (d := ⟨#[]⟩) (t := ⟨#[]⟩) hK hL (hloop bx) (by decide) (by simp only [ByteArray.size_append, bsz, List.length_cons, List.length_nil]; omega))
    · exact ev_step cfg (f35_4 (t := ⟨#[]⟩) hK hL (dig_ev n hn) (hloop bx) (by decide) (by simp only [ByteArray.size_append, bsz, List.length_cons, List.length_nil]; omega) (by simp only [ByteArray.size_append, bsz, List.length_cons, List.length_nil]; omega) (by simp only [ByteArray.size_append, bsz, List.length_cons, List.length_nil]; omega))
    · exact ev_step cfg (f35_5 (t := ⟨#[]⟩) hK hL (dig_ev n hn) (hloop bx) (by decide) (by simp only [ByteArray.size_append, bsz, List.length_cons, List.length_nil]; omega) (by simp only [ByteArray.size_append, bsz, List.length_cons, List.length_nil]; omega) (by simp only [ByteArray.size_append, bsz, List.length_cons, List.length_nil]; omega))
    · exact ev_step cfg (f35_6 (t := ⟨#[]⟩) hK hL (dig_ev n hn) (hloop bx) (by decide) (by simp only [ByteArray.size_append, bsz, List.length_cons, List.length_nil]; omega) (by simp only [ByteArray.size_append, bsz, List.length_cons, List.length_nil]; omega) (by simp only [ByteArray.size_append, bsz, List.length_cons, List.length_nil]; omega))
    · exact ev_step cfg (f35_7 (t := ⟨#[]⟩) hK hL (dig_ev n hn) (dig_ev a ha) (hloop bx) (by decide) (by simp only [ByteArray.size_append, bsz, List.length_cons, List.length_nil]; omega) (by simp only [ByteArray.size_append, bsz, List.length_cons, List.length_nil]; omega) (by simp only [ByteArray.size_append, bsz, List.length_cons, List.length_nil]; omega) (by simp only [ByteArray.size_append, bsz, List.length_cons, List.length_nil]; omega) (by simp only [ByteArray.size_append, bsz, List.length_cons, List.length_nil]; omega))
    · exact ev_step cfg (f35_8 hK hL (dig_ev n hn) (by simp only [ByteArray.size_append, bsz, List.length_cons, List.length_nil]; omega))
    · exact ev_step cfg (f35_9 (d := ⟨#[]⟩) hK hL (hloop bx) (hlink bx) (by decide) (by simp only [ByteArray.size_append, bsz, List.length_cons, List.length_nil]; omega))
    · exact ev_step cfg (f35_10 hK hL)
where
  loop : ∀ (bs : List Blk) {rows rs : List (List D)} {K : D} {s : ByteArray} {i : Nat} {bx : List Box} {c : Box}, IsS 5 rows K → rows.drop i = rs → IsB.IsBs bs rs → rows.length < 9223372036854775808 → badB.go bs = false → okB.go bs → okN.go bs → sizeB.go bs ≤ 1000000 → s.size + 8000 * sizeB.go bs ≤ 100000000000 → c.all (cellLt (bx.length + 1)) = true →
    ev cfg (.loop 24 16 ⟨(.dead :: .ptr bx.length 0 :: .dead :: S s :: .dead :: .dead :: .dead :: .dead :: .dead :: .dead :: .dead :: .dead :: .dead :: .dead :: .dead :: .dead :: .dead :: .dead :: .dead :: .dead :: .dead :: .dead :: .dead :: .dead :: .dead :: .dead :: .dead :: .dead :: .dead :: .dead :: .dead :: .dead :: .dead :: .dead :: .dead :: .dead :: .dead :: .dead :: .dead :: .dead :: .dead :: .dead :: .dead :: .dead :: .dead :: .dead :: .dead :: .dead :: .dead :: .dead :: .dead :: .dead :: .dead :: .dead :: .dat K :: I rows.length :: I i :: .dead :: .dead :: .dead :: .dead :: .dead :: .dead :: .dead :: .dead :: .dead :: .dead :: .dead :: .dead :: .dead :: .dead :: .dead :: .dead :: .dead :: .dead :: .dead :: .dead :: .dead :: .dead :: .dead :: .dead :: .dead :: .dead :: .dead :: .dead :: .dead :: .dead :: .dead :: .dead :: .dead :: .dead :: .dead :: .dead :: .dead :: .dead :: .dead :: []), bx ++ [c], bx.length, none, false⟩) = some (.loop (.exit 1) ⟨(.dead :: .ptr bx.length 0 :: .dead :: S (textB.go s bs) :: .dead :: .dead :: .dead :: .dead :: .dead :: .dead :: .dead :: .dead :: .dead :: .dead :: .dead :: .dead :: .dead :: .dead :: .dead :: .dead :: .dead :: .dead :: .dead :: .dead :: .dead :: .dead :: .dead :: .dead :: .dead :: .dead :: .dead :: .dead :: .dead :: .dead :: .dead :: .dead :: .dead :: .dead :: .dead :: .dead :: .dead :: .dead :: .dead :: .dead :: .dead :: .dead :: .dead :: .dead :: .dead :: .dead :: .dead :: .dead :: .dead :: .dead :: .dead :: .dead :: .dead :: .dead :: .dead :: .dead :: .dead :: .dead :: .dead :: .dead :: .dead :: .dead :: .dead :: .dead :: .dead :: .dead :: .dead :: .dead :: .dead :: .dead :: .dead :: .dead :: .dead :: .dead :: .dead :: .dead :: .dead :: .dead :: .dead :: .dead :: .dead :: .dead :: .dead :: .dead :: .dead :: .dead :: .dead :: .dead :: .dead :: .dead :: .dead :: .dead :: []), bx ++ [c], bx.length, none, false⟩)
  | [], rows, rs, K, s, i, bx, c, hK, hr, hbs, hmax, hbad, hok, hn, hz, hs, hc => by
    rw [IsB.IsBs] at hbs
    subst hbs
    rw [textB.go]
    exact ev_step cfg (e35 hc (drop_nil hr))
  | b :: bs, rows, rs, K, s, i, bx, c, hK, hr, hbs, hmax, hbad, hok, hn, hz, hs, hc => by
    rw [IsB.IsBs] at hbs
    obtain ⟨k, n, a, K', L', rest, rfl, hB, hrest⟩ := hbs
    obtain ⟨hget, hr', hlt⟩ := drop_cons hr
    rw [badB.go, Bool.or_eq_false_iff] at hbad
    rw [okB.go] at hok
    rw [okN.go] at hn
    rw [sizeB.go] at hz hs
    have p1 := sizeB_pos b
    have p2 := sizeB_pos.go bs
    have ht := textB_size b hok.1 hn.1
    have h1 := r35 (s := s) hK hc hget hlt hmax (isB_one hB).1 (isB_one hB).2 (text_ev b hB hbad.1 hok.1 (by omega)) (by simp only [ByteArray.size_append, bsz, List.length_cons, List.length_nil]; omega) (by simp only [ByteArray.size_append, bsz, List.length_cons, List.length_nil]; omega)
    rw [textB.go]
    exact ev_step cfg (h1.trans (loop bs (i := i + 1) (s := s ++ (⟨#[32]⟩ ++ textB b)) hK hr' hrest hmax hbad.2 hok.2 hn.2 (by omega) (by simp only [ByteArray.size_append, bsz, List.length_cons, List.length_nil]; omega) hc))

end Go.Proofs.YtifckjhggamefaaDoor
namespace Go.Proofs.YtifckjhggamefaaDoor
open Go Go.Vx
set_option maxRecDepth 10000
set_option maxHeartbeats 1000000

theorem mkD_is (k : Nat) (xs : List (List D)) : IsS k xs (mkD k xs) := by
  cases xs with
  | nil => exact isS_nil k
  | cons => exact isS_sl k _
def longB (b : Blk) : Bool := decide (deepB b > 24) || decide (sizeB b > 96)
def outT (b : Blk) : ByteArray × Int := if longB b = true then (⟨#[]⟩, 2) else if badB b = true then (⟨#[]⟩, 4) else (textB b, 0)

theorem long_ev (b : Blk) {k n a : Int} {K L : D} (h : IsB b k n a K L) (hz : sizeB b ≤ 1000000) (bx : List Box) : ev cfg (.call 18 [.agg [I k, I n, I a, .dat K, .dat L]] bx) = some (.ret (B (longB b)) none) := by
  obtain ⟨⟨_, hK⟩, _, hL⟩ := isB_K h
  exact ev_step cfg (f33 hK hL (deep_ev b h hz) (size_ev b h hz))

theorem Text_ev (b : Blk) {k n a : Int} {K L : D} (h : IsB b k n a K L) (hok : okB b) (hz : sizeB b ≤ 1000000) (bx : List Box) : ev cfg (.call 9 [.agg [I k, I n, I a, .dat K, .dat L]] bx) = some (.ret (.tup [S (outT b).1, I (outT b).2]) none) := by
  obtain ⟨⟨_, hK⟩, _, hL⟩ := isB_K h
  have h1 := long_ev b h hz
  have h2 := wrong_ev b h
  rw [outT]
  cases hl : longB b with
  | true => rw [hl] at h1; rw [if_pos rfl]; exact ev_step cfg (f13_long hK hL h1)
  | false =>
    rw [hl] at h1
    rw [if_neg (by simp)]
    cases hb : badB b with
    | true => rw [hb] at h2; rw [if_pos rfl]; exact ev_step cfg (f13_bad hK hL h1 h2)
    | false => rw [hb] at h2; rw [if_neg (by simp)]; exact ev_step cfg (f13_ok hK hL h1 h2 (text_ev b h hb hok hz))

end Go.Proofs.YtifckjhggamefaaDoor
namespace Go.Proofs.YtifckjhggamefaaDoor
open Go Go.Vx
set_option maxRecDepth 10000
set_option maxHeartbeats 1000000

/-- no links in it -/
def noL : Blk → Prop
  | .mk _ _ _ ks ls => ls = [] ∧ go ks
where
  go : List Blk → Prop
  | [] => True
  | b :: bs => noL b ∧ go bs

theorem bne_self' (n : Int) : (n != n) = false := by simp

theorem self_ev : ∀ (b : Blk) {k n a : Int} {K L : D}, IsB b k n a K L → noL b → ∀ bx : List Box, ev cfg (.call 10 [.agg [I k, I n, I a, .dat K, .dat L], .agg [I k, I n, I a, .dat K, .dat L]] bx) = some (.ret (B true) none)
  | .mk _ _ _ ks ls, k, n, a, K, L, h, hno, bx => by
    rw [IsB] at h
    obtain ⟨rfl, rfl, rfl, ik, hn, ha, rows, hK, hks, hmax, hL, hlm, hx⟩ := h
    rw [noL] at hno
    obtain ⟨rfl, hno⟩ := hno
    have h1 : ∀ bx : List Box, ev cfg (.call 25 [.dat L, .dat L] bx) = some (.ret (B true) none) := fun bx => ev_step cfg (f41 (x := true) hL hL (bne_self' _) (ev_step cfg (by exact e41 (i := 0) (Nat.le_refl 0))))
    have h2 : ∀ bx : List Box, ev cfg (.call 26 [.dat K, .dat K, .clo 10 []] bx) = some (.ret (B true) none) := fun bx => ev_step cfg (f42 (x := true) hK hK (bne_self' _) (loop ks (i := 0) hK rfl hks (by rw [isBs_len hks]; exact hmax) hno))
    have := f17 (bx := bx) (k := k) (n := n) (a := a) (k2 := k) (n2 := n) (a2 := a) hK hL hK hL h1 h2
    rw [BEq.rfl, BEq.rfl, BEq.rfl] at this
    exact ev_step cfg this
where
  loop : ∀ (bs : List Blk) {rows rs : List (List D)} {K : D} {i : Nat} {bx : List Box}, IsS 5 rows K → rows.drop i = rs → IsB.IsBs bs rs → rows.length < 9223372036854775808 → noL.go bs →
    ev cfg (.loop 26 4 ⟨(.dead :: .dat K :: .clo 10 [] :: .dead :: .dead :: .dead :: .dead :: .dead :: .dead :: .dead :: .dead :: .dead :: .dead :: .dead :: .dead :: .dat K :: I rows.length :: I i :: .dead :: .dead :: .dead :: .dead :: .dead :: .dead :: .dead :: .dead :: .dead :: .dead :: .dead :: .dead :: .dead :: .dead :: []), bx, bx.length, none, false⟩) = some (.loop (.exit 0) ⟨(.dead :: .dead :: .dead :: .dead :: .dead :: .dead :: .dead :: .dead :: .dead :: .dead :: .dead :: .dead :: .dead :: .dead :: .dead :: .dead :: .dead :: .dead :: .dead :: .dead :: .dead :: .dead :: .dead :: .dead :: .dead :: .dead :: .dead :: .dead :: .dead :: .dead :: .dead :: .dead :: []), bx, bx.length, none, false⟩)
  | [], rows, rs, K, i, bx, hK, hr, hbs, hmax, hno => by
    rw [IsB.IsBs] at hbs
    subst hbs
    exact ev_step cfg (e42 (drop_nil hr))
  | b :: bs, rows, rs, K, i, bx, hK, hr, hbs, hmax, hno => by
    rw [IsB.IsBs] at hbs
    obtain ⟨k, n, a, K', L', rest, rfl, hB, hrest⟩ := hbs
    obtain ⟨hget, hr', hlt⟩ := drop_cons hr
    rw [noL.go] at hno
    have h1 := r42 (bx := bx) (x := true) hK hK hget hget hlt hmax (isB_one hB).1 (isB_one hB).2 (isB_one hB).1 (isB_one hB).2 (self_ev b hB hno.1)
    rw [if_pos rfl] at h1
    exact ev_step cfg (h1.trans (loop bs (i := i + 1) hK hr' hrest hmax hno.2))

def altB : Blk := .mk 3 0 0 [.mk 2 1 0 [] [], .mk 5 2 0 [.mk 2 3 0 [] [], .mk 1 0 0 [] []] []] []
theorem i64d' {n : Int} (h : decide (-9223372036854775808 ≤ n) = true) (h2 : decide (n ≤ 9223372036854775807) = true) : i64 n := ⟨of_decide_eq_true h, of_decide_eq_true h2⟩
theorem isB_leaf (k n a : Int) (hk : i64 k) (hn : i64 n) (ha : i64 a) : IsB (.mk k n a [] []) k n a .nil .nil := by
  rw [IsB]
  exact ⟨rfl, rfl, rfl, hk, hn, ha, [], isS_nil 5, by rw [IsB.IsBs], by simp, isS_nil 3, by simp, fun x hx => by cases hx⟩
theorem isB_two {b1 b2 : Blk} {k1 n1 a1 k2 n2 a2 : Int} {K1 L1 K2 L2 : D} (k n a : Int) (hk : i64 k) (hn : i64 n) (ha : i64 a) (h1 : IsB b1 k1 n1 a1 K1 L1) (h2 : IsB b2 k2 n2 a2 K2 L2) :
    IsB (.mk k n a [b1, b2] []) k n a (.sl 5 [[dI k1, dI n1, dI a1, K1, L1], [dI k2, dI n2, dI a2, K2, L2]]) .nil := by
  rw [IsB]
  refine ⟨rfl, rfl, rfl, hk, hn, ha, _, isS_sl 5 _, ?_, by simp, isS_nil 3, by simp, fun x hx => by cases hx⟩
  rw [IsB.IsBs]
  refine ⟨_, _, _, _, _, _, rfl, h1, ?_⟩
  rw [IsB.IsBs]
  exact ⟨_, _, _, _, _, _, rfl, h2, by rw [IsB.IsBs]⟩
theorem altB_is : IsB altB 3 0 0 altK .nil :=
  isB_two 3 0 0 (i64d' rfl rfl) (i64d' rfl rfl) (i64d' rfl rfl) (isB_leaf 2 1 0 (i64d' rfl rfl) (i64d' rfl rfl) (i64d' rfl rfl)) (isB_two 5 2 0 (i64d' rfl rfl) (i64d' rfl rfl) (i64d' rfl rfl) (isB_leaf 2 3 0 (i64d' rfl rfl) (i64d' rfl rfl) (i64d' rfl rfl)) (isB_leaf 1 0 0 (i64d' rfl rfl) (i64d' rfl rfl) (i64d' rfl rfl)))

theorem altB_ok : okB altB := by simp [altB, okB, okB.go]
theorem altB_noL : noL altB := by simp [altB, noL, noL.go]
theorem altB_size : sizeB altB = 5 := by simp [altB, sizeB, sizeB.go]
theorem altB_deep : deepB altB = 3 := by simp [altB, deepB, deepB.go]
theorem altB_bad : badB altB = false := by simp [altB, badB, badB.go, badOne]
theorem digN_small {n : Nat} (h : n < 10) : digN n = chr n := by rw [digN, if_pos h]
theorem altB_text : textB altB = ⟨#[40, 115, 101, 113, 32, 49, 32, 40, 97, 108, 116, 58, 50, 32, 51, 32, 45, 41, 41]⟩ := by
  have e1 : dig 1 = ⟨#[49]⟩ := by rw [dig, if_neg (by decide)]; show digN 1 = _; rw [digN_small (by decide)]; rfl
  have e2 : dig 2 = ⟨#[50]⟩ := by rw [dig, if_neg (by decide)]; show digN 2 = _; rw [digN_small (by decide)]; rfl
  have e3 : dig 3 = ⟨#[51]⟩ := by rw [dig, if_neg (by decide)]; show digN 3 = _; rw [digN_small (by decide)]; rfl
  simp [altB, textB, textB.go, headT, nmB, e1, e2, e3]
  decide
theorem altB_out : outT altB = (⟨#[40, 115, 101, 113, 32, 49, 32, 40, 97, 108, 116, 58, 50, 32, 51, 32, 45, 41, 41]⟩, 0) := by
  simp [outT, longB, altB_size, altB_deep, altB_bad, altB_text]

theorem alt_ev (bx : List Box) : ev cfg (.call 7 [] bx) = some (.ret (B true) none) := by
  have ht := Text_ev altB altB_is altB_ok (by rw [altB_size]; decide)
  have hz := size_ev altB altB_is (by rw [altB_size]; decide)
  rw [altB_out] at ht
  rw [altB_size] at hz
  exact ev_step cfg (f11 ht hz (self_ev altB altB_is altB_noL))

end Go.Proofs.YtifckjhggamefaaDoor
namespace Go.Proofs.YtifckjhggamefaaDoor
open Go Go.Vx
set_option maxRecDepth 10000
set_option maxHeartbeats 1000000

def lkEq (x y : Int × Int × Int) : Bool := x.1 == y.1 && (x.2.1 == y.2.1 && x.2.2 == y.2.2)
def lksEq : List (Int × Int × Int) → List (Int × Int × Int) → Bool
  | [], [] => true
  | x :: xs, y :: ys => lkEq x y && lksEq xs ys
  | _, _ => false

/-- are two trees the same? -/
def sameB : Blk → Blk → Bool
  | .mk k n a ks ls, b => match b with
    | .mk k2 n2 a2 ks2 ls2 => k == k2 && n == n2 && a == a2 && lksEq ls ls2 && go ks ks2
where
  go : List Blk → List Blk → Bool
  | [], bs => bs.isEmpty
  | b :: bs, cs => match cs with
    | [] => false
    | c :: cs => sameB b c && go bs cs

theorem lksEq_len : ∀ {xs ys : List (Int × Int × Int)}, xs.length ≠ ys.length → lksEq xs ys = false
  | [], [], h => absurd rfl h
  | [], _ :: _, _ => rfl
  | _ :: _, [], _ => rfl
  | x :: xs, y :: ys, h => by rw [lksEq, lksEq_len (by simpa using h), Bool.and_false]
theorem go_len : ∀ {xs ys : List Blk}, xs.length ≠ ys.length → sameB.go xs ys = false
  | [], [], h => absurd rfl h
  | [], _ :: _, _ => by rw [sameB.go]; rfl
  | _ :: _, [], _ => by rw [sameB.go]
  | x :: xs, y :: ys, h => by rw [sameB.go]; (try simp only); rw [go_len (by simpa using h), Bool.and_false]
theorem lksEq_refl : ∀ xs, lksEq xs xs = true
  | [] => rfl
  | x :: xs => by rw [lksEq, lksEq_refl xs, lkEq]; simp
theorem sameB_refl : ∀ b, sameB b b = true
  | .mk k n a ks ls => by rw [sameB]; (try simp only); rw [lksEq_refl, go ks]; simp
where
  go : ∀ bs, sameB.go bs bs = true
  | [] => by rw [sameB.go]; rfl
  | b :: bs => by rw [sameB.go]; (try simp only); rw [sameB_refl b, go bs]; rfl

theorem bne_len {m n : Nat} (h : ¬ m = n) : ((m : Int) != (n : Int)) = true := by
  simp only [bne_iff_ne, ne_eq]
  omega
theorem bne_len' {m n : Nat} (h : m = n) : ((m : Int) != (n : Int)) = false := by
  subst h; simp

theorem lks_loop : ∀ (xs ys : List (Int × Int × Int)) {lr lr2 : List (List D)} {L L2 : D} {i : Nat} {bx : List Box}, IsS 3 lr L → IsS 3 lr2 L2 → lr.drop i = xs.map lnkD → lr2.drop i = ys.map lnkD → xs.length = ys.length → lr.length < 9223372036854775808 →
    ev cfg (.loop 25 4 ⟨(.dat L :: .dat L2 :: .dead :: .dead :: .dead :: .dead :: .dead :: .dead :: .dead :: .dead :: .dead :: .dead :: I lr.length :: I i :: .dead :: .dead :: .dead :: .dead :: .dead :: .dead :: .dead :: .dead :: .dead :: .dead :: .dead :: .dead :: []), bx, bx.length, none, false⟩) = some (if lksEq xs ys = true then .loop (.exit 0) ⟨(.dead :: .dead :: .dead :: .dead :: .dead :: .dead :: .dead :: .dead :: .dead :: .dead :: .dead :: .dead :: .dead :: .dead :: .dead :: .dead :: .dead :: .dead :: .dead :: .dead :: .dead :: .dead :: .dead :: .dead :: .dead :: .dead :: []), bx, bx.length, none, false⟩ else .loop .ret ⟨(.dead :: .dead :: .dead :: .dead :: B false :: .dead :: .dead :: .dead :: .dead :: .dead :: .dead :: .dead :: .dead :: .dead :: .dead :: .dead :: .dead :: .dead :: .dead :: .dead :: .dead :: .dead :: .dead :: .dead :: .dead :: .dead :: []), bx, bx.length, none, false⟩)
  | [], [], lr, lr2, L, L2, i, bx, hL, hL2, hr, hr2, hlen, hmax => by
    rw [lksEq, if_pos rfl]
    exact ev_step cfg (e41 (drop_nil hr))
  | x :: xs, y :: ys, lr, lr2, L, L2, i, bx, hL, hL2, hr, hr2, hlen, hmax => by
    rw [List.map_cons] at hr hr2
    obtain ⟨hget, hr', hlt⟩ := drop_cons hr
    obtain ⟨hget2, hr2', _⟩ := drop_cons hr2
    have h1 := r41 (bx := bx) (x := lkEq x y) hL hL2 hget hget2 hlt hmax rfl
    have ih := lks_loop xs ys (i := i + 1) (bx := bx) hL hL2 hr' hr2' (by simpa using hlen) hmax
    rw [lksEq]
    cases hx : lkEq x y
    · rw [hx, if_neg (by simp)] at h1
      rw [Bool.false_and, if_neg (by simp)]
      exact ev_step cfg h1
    · rw [hx, if_pos rfl] at h1
      rw [Bool.true_and]
      exact ev_step cfg (h1.trans ih)
  | [], _ :: _, _, _, _, _, _, _, _, _, _, _, hlen, _ => by cases hlen
  | _ :: _, [], _, _, _, _, _, _, _, _, _, _, hlen, _ => by cases hlen

theorem lks_ev {xs ys : List (Int × Int × Int)} {L L2 : D} (hL : IsS 3 (xs.map lnkD) L) (hL2 : IsS 3 (ys.map lnkD) L2) (hmax : xs.length < 9223372036854775808) (bx : List Box) : ev cfg (.call 25 [.dat L, .dat L2] bx) = some (.ret (B (lksEq xs ys)) none) := by
  by_cases h : xs.length = ys.length
  · exact ev_step cfg (f41 hL hL2 (bne_len' (by simpa using h)) (lks_loop xs ys (i := 0) hL hL2 rfl rfl h (by simpa using hmax)))
  · rw [lksEq_len h]
    exact ev_step cfg (f41_len hL hL2 (bne_len (by simpa using h)))

theorem same_ev : ∀ (b c : Blk) {k n a k2 n2 a2 : Int} {K L K2 L2 : D}, IsB b k n a K L → IsB c k2 n2 a2 K2 L2 → ∀ bx : List Box, ev cfg (.call 10 [.agg [I k, I n, I a, .dat K, .dat L], .agg [I k2, I n2, I a2, .dat K2, .dat L2]] bx) = some (.ret (B (sameB b c)) none)
  | .mk _ _ _ ks ls, c, k, n, a, k2, n2, a2, K, L, K2, L2, h, h2, bx => by
    cases c with
    | mk _ _ _ ks2 ls2 =>
    rw [IsB] at h h2
    obtain ⟨rfl, rfl, rfl, _, _, _, rows, hK, hks, hmax, hL, hlm, _⟩ := h
    obtain ⟨rfl, rfl, rfl, _, _, _, rows2, hK2, hks2, hmax2, hL2, hlm2, _⟩ := h2
    have h42 : ∀ bx : List Box, ev cfg (.call 26 [.dat K, .dat K2, .clo 10 []] bx) = some (.ret (B (sameB.go ks ks2)) none) := by
      intro bx
      by_cases hlen : ks.length = ks2.length
      · exact ev_step cfg (f42 hK hK2 (bne_len' (by rw [isBs_len hks, isBs_len hks2]; exact hlen)) (loop ks ks2 (i := 0) hK hK2 rfl rfl hks hks2 hlen (by rw [isBs_len hks]; exact hmax)))
      · rw [go_len hlen]
        exact ev_step cfg (f42_len hK hK2 (bne_len (by rw [isBs_len hks, isBs_len hks2]; exact hlen)))
    rw [sameB]
    exact ev_step cfg (f17 hK hL hK2 hL2 (lks_ev hL hL2 hlm) h42)
where
  loop : ∀ (bs cs : List Blk) {rows rows2 rs rs2 : List (List D)} {K K2 : D} {i : Nat} {bx : List Box}, IsS 5 rows K → IsS 5 rows2 K2 → rows.drop i = rs → rows2.drop i = rs2 → IsB.IsBs bs rs → IsB.IsBs cs rs2 → bs.length = cs.length → rows.length < 9223372036854775808 →
    ev cfg (.loop 26 4 ⟨(.dead :: .dat K2 :: .clo 10 [] :: .dead :: .dead :: .dead :: .dead :: .dead :: .dead :: .dead :: .dead :: .dead :: .dead :: .dead :: .dead :: .dat K :: I rows.length :: I i :: .dead :: .dead :: .dead :: .dead :: .dead :: .dead :: .dead :: .dead :: .dead :: .dead :: .dead :: .dead :: .dead :: .dead :: []), bx, bx.length, none, false⟩) = some (if sameB.go bs cs = true then .loop (.exit 0) ⟨(.dead :: .dead :: .dead :: .dead :: .dead :: .dead :: .dead :: .dead :: .dead :: .dead :: .dead :: .dead :: .dead :: .dead :: .dead :: .dead :: .dead :: .dead :: .dead :: .dead :: .dead :: .dead :: .dead :: .dead :: .dead :: .dead :: .dead :: .dead :: .dead :: .dead :: .dead :: .dead :: []), bx, bx.length, none, false⟩ else .loop .ret ⟨(.dead :: .dead :: .dead :: .dead :: .dead :: .dead :: B false :: .dead :: .dead :: .dead :: .dead :: .dead :: .dead :: .dead :: .dead :: .dead :: .dead :: .dead :: .dead :: .dead :: .dead :: .dead :: .dead :: .dead :: .dead :: .dead :: .dead :: .dead :: .dead :: .dead :: .dead :: .dead :: []), bx, bx.length, none, false⟩)
  | [], cs, rows, rows2, rs, rs2, K, K2, i, bx, hK, hK2, hr, hr2, hbs, hcs, hlen, hmax => by
    cases cs with
    | cons => cases hlen
    | nil =>
      rw [IsB.IsBs] at hbs
      subst hbs
      rw [sameB.go, List.isEmpty_nil, if_pos rfl]
      exact ev_step cfg (e42 (drop_nil hr))
  | b :: bs, cs, rows, rows2, rs, rs2, K, K2, i, bx, hK, hK2, hr, hr2, hbs, hcs, hlen, hmax => by
    cases cs with
    | nil => cases hlen
    | cons c cs =>
      rw [IsB.IsBs] at hbs hcs
      obtain ⟨k, n, a, K', L', rest, rfl, hB, hrest⟩ := hbs
      obtain ⟨k2, n2, a2, K2', L2', rest2, rfl, hB2, hrest2⟩ := hcs
      obtain ⟨hget, hr', hlt⟩ := drop_cons hr
      obtain ⟨hget2, hr2', _⟩ := drop_cons hr2
      have h1 := r42 (bx := bx) (x := sameB b c) hK hK2 hget hget2 hlt hmax (isB_one hB).1 (isB_one hB).2 (isB_one hB2).1 (isB_one hB2).2 (same_ev b c hB hB2)
      have ih := loop bs cs (i := i + 1) (bx := bx) hK hK2 hr' hr2' hrest hrest2 (by simpa using hlen) hmax
      rw [sameB.go]
      try simp only
      cases hx : sameB b c
      · rw [hx, if_neg (by simp)] at h1
        rw [Bool.false_and, if_neg (by simp)]
        exact ev_step cfg h1
      · rw [hx, if_pos rfl] at h1
        rw [Bool.true_and]
        exact ev_step cfg (h1.trans ih)

end Go.Proofs.YtifckjhggamefaaDoor
namespace Go.Proofs.YtifckjhggamefaaDoor
open Go Go.Vx

structure Nd where
  k : Int
  a : Int
  t : Trm
structure Fl where
  fr : Int
  to : Int
  els : Bool
  c : Trm
structure Nt where
  nodes : List Nd
  flows : List Fl

def IsNd (x : Nd) (r : List D) : Prop := i64 x.k ∧ i64 x.a ∧ ∃ op n K, r = [dI x.k, dI x.a, dI op, dI n, K] ∧ IsT x.t op n K
def IsFl (x : Fl) (r : List D) : Prop := i64 x.fr ∧ i64 x.to ∧ ∃ op n K, r = [dI x.fr, dI x.to, .lit (.bool x.els), dI op, dI n, K] ∧ IsT x.c op n K
def AreR {α : Type} (p : α → List D → Prop) (xs : List α) (rows : List (List D)) : Prop := rows.length = xs.length ∧ ∀ (i : Nat) x, xs[i]? = some x → ∃ r, rows[i]? = some r ∧ p x r

/-- the two cells of a process say its nodes and its flows -/
def IsN (n : Nt) (N F : D) : Prop := ∃ nr fr, IsS 5 nr N ∧ AreR IsNd n.nodes nr ∧ n.nodes.length < 9223372036854775808 ∧ IsS 6 fr F ∧ AreR IsFl n.flows fr ∧ n.flows.length < 9223372036854775808

theorem AreR.get {α : Type} {p : α → List D → Prop} {xs : List α} {rows : List (List D)} (h : AreR p xs rows) {i : Nat} (hi : i < xs.length) : ∃ r, rows[i]? = some r ∧ p xs[i] r := h.2 i xs[i] (by simp [hi])

def idxs {α : Type} (p : α → Bool) : Nat → List α → List Nat
  | _, [] => []
  | k, x :: xs => if p x = true then k :: idxs p (k + 1) xs else idxs p (k + 1) xs

theorem mem_idxs {α : Type} (p : α → Bool) : ∀ (xs : List α) (k j : Nat), j ∈ idxs p k xs ↔ k ≤ j ∧ ∃ x, xs[j - k]? = some x ∧ p x = true
  | [], k, j => by simp [idxs]
  | x :: xs, k, j => by
    rw [idxs]
    have ih := mem_idxs p xs (k + 1) j
    constructor
    · intro h
      split at h
      · rename_i hx
        rcases List.mem_cons.1 h with rfl | h
        · exact ⟨Nat.le_refl _, x, by simp, hx⟩
        · obtain ⟨h1, y, h2, h3⟩ := ih.1 h
          refine ⟨by omega, y, ?_, h3⟩
          rw [show j - k = (j - (k + 1)) + 1 by omega]; simpa using h2
      · obtain ⟨h1, y, h2, h3⟩ := ih.1 h
        refine ⟨by omega, y, ?_, h3⟩
        rw [show j - k = (j - (k + 1)) + 1 by omega]; simpa using h2
    · rintro ⟨h1, y, h2, h3⟩
      by_cases e : j = k
      · subst e
        simp at h2; subst h2
        rw [if_pos h3]; exact List.mem_cons_self
      · have : j ∈ idxs p (k + 1) xs := ih.2 ⟨by omega, y, by rw [show j - k = (j - (k + 1)) + 1 by omega] at h2; simpa using h2, h3⟩
        split
        · exact List.mem_cons_of_mem _ this
        · exact this

theorem idxs_len {α : Type} (p : α → Bool) : ∀ (xs : List α) (k : Nat), (idxs p k xs).length ≤ xs.length
  | [], k => by simp [idxs]
  | x :: xs, k => by
    rw [idxs]
    have := idxs_len p xs (k + 1)
    split <;> simp <;> omega

def noneT : Trm → Bool
  | .mk op n ks => op == 0 && n == 0 && ks.isEmpty
def insN (n : Nt) (i : Int) : List Nat := idxs (fun f => f.to == i) 0 n.flows
def outsN (n : Nt) (i : Int) : List Nat := idxs (fun f => f.fr == i) 0 n.flows
def inN (n : Nt) (i : Int) : Bool := decide (0 ≤ i) && decide (i < n.nodes.length)
/-- a node's kind; 0: there is none -/
def kindN (n : Nt) (i : Int) : Int := if i < 0 then 0 else match n.nodes[i.toNat]? with
  | some x => x.k
  | none => 0
def toN (n : Nt) (k : Nat) : Int := match n.flows[k]? with
  | some f => f.to
  | none => 0
def elsN (n : Nt) (k : Nat) : Bool := match n.flows[k]? with
  | some f => f.els
  | none => false
def most (k : Int) : Int := if k = 3 then 3 else if k = 8 then 4 else 0

section
variable (ofT : Trm → Int → Bool)
def rightN (x : Nd) : Bool :=
  if x.k = 4 then ofT x.t 1 && (decide (0 ≤ x.a) && decide (x.a ≤ 3))
  else (decide (1 ≤ x.k) && decide (x.k ≤ 8)) && ((decide (0 ≤ x.a) && decide (x.a ≤ most x.k)) && noneT x.t)
def leadsN (n : Nt) (f : Fl) : Bool :=
  inN n f.fr && inN n f.to && (f.fr != f.to) &&
    (if kindN n f.fr ≠ 5 ∨ (outsN n f.fr).length < 2 then !f.els && noneT f.c else if f.els = true then noneT f.c else ofT f.c 2)
end

def linkedN (n : Nt) (i : Int) : Bool :=
  let ins := (insN n i).length
  let outs := outsN n i
  let elses := (outs.filter (elsN n)).length
  let k := kindN n i
  if k = 1 then ins == 0 && outs.length == 1
  else if k = 2 then ins == 1 && outs.length == 0
  else if k = 7 then ins == 1 && (decide (1 < outs.length) && outs.all fun f => kindN n (toN n f) == 8)
  else if k = 5 then ins == 1 && decide (1 < outs.length) && elses == 1 || decide (1 < ins) && outs.length == 1
  else if k = 6 then ins == 1 && decide (1 < outs.length) || decide (1 < ins) && outs.length == 1
  else ins == 1 && outs.length == 1

/-- the first node of a kind; -1: there is none -/
def firstK (k : Int) : Int → List Nd → Int
  | _, [] => -1
  | i, x :: xs => if x.k = k then i else firstK k (i + 1) xs
def startN (n : Nt) : Int := firstK 1 0 n.nodes
def endN (n : Nt) : Int := firstK 2 0 n.nodes

theorem firstK_ge (k : Int) : ∀ (xs : List Nd) (i : Int), firstK k i xs = -1 ∨ (i ≤ firstK k i xs ∧ firstK k i xs < i + xs.length)
  | [], i => .inl rfl
  | x :: xs, i => by
    rw [firstK]
    split
    · right; simp; omega
    · rcases firstK_ge k xs (i + 1) with h | h
      · exact .inl h
      · right; simp; omega

inductive Rch (e : Int → Int → Prop) (a : Int) : Int → Prop
  | refl : Rch e a a
  | step {b c : Int} : Rch e a b → e b c → Rch e a c
theorem Rch.head {e : Int → Int → Prop} {a b c : Int} (h : e a b) (h2 : Rch e b c) : Rch e a c := by
  induction h2 with
  | refl => exact .step .refl h
  | step _ h4 ih => exact .step ih h4
def Edge (n : Nt) (x y : Int) : Prop := ∃ f ∈ n.flows, f.fr = x ∧ f.to = y
def EdgeB (n : Nt) (back : Bool) (x y : Int) : Prop := if back = true then Edge n y x else Edge n x y
def nextF (back : Bool) (i : Int) (f : Fl) : Option Int := if back = true then (if f.to = i then some f.fr else none) else if f.fr = i then some f.to else none

theorem mem_next {n : Nt} {back : Bool} {i t : Int} : t ∈ n.flows.filterMap (nextF back i) ↔ EdgeB n back i t := by
  simp only [List.mem_filterMap, EdgeB, Edge, nextF]
  cases back
  · simp only [Bool.false_eq_true, if_false]
    constructor
    · rintro ⟨f, hf, h⟩
      split at h
      · rename_i e; exact ⟨f, hf, e, by simpa using h⟩
      · cases h
    · rintro ⟨f, hf, e, h⟩; exact ⟨f, hf, by rw [if_pos e, h]⟩
  · simp only [if_true]
    constructor
    · rintro ⟨f, hf, h⟩
      split at h
      · rename_i e; exact ⟨f, hf, by simpa using h, e⟩
      · cases h
    · rintro ⟨f, hf, h, e⟩; exact ⟨f, hf, by rw [if_pos e, h]⟩

/-- what is still to be gone from, and what was seen -/
structure MetInv (n : Nt) (back : Bool) (a : Int) (todo : List Int) (seen : List Bool) : Prop where
  len : seen.length = n.nodes.length
  rng : ∀ t ∈ todo, 0 ≤ t ∧ t < n.nodes.length
  snd : ∀ (i : Nat), seen[i]? = some true → Rch (EdgeB n back) a i
  snd2 : ∀ t ∈ todo, Rch (EdgeB n back) a t
  cls : ∀ (i : Nat), seen[i]? = some true → ∀ t, EdgeB n back i t → t ∈ todo ∨ seen[t.toNat]? = some true
  here : a ∈ todo ∨ seen[a.toNat]? = some true

theorem MetInv.skip {n : Nt} {back : Bool} {a t : Int} {todo : List Int} {seen : List Bool} (h : MetInv n back a (t :: todo) seen) (hs : seen[t.toNat]? = some true) : MetInv n back a todo seen where
  len := h.len
  rng := fun x hx => h.rng x (List.mem_cons_of_mem _ hx)
  snd := h.snd
  snd2 := fun x hx => h.snd2 x (List.mem_cons_of_mem _ hx)
  cls := fun i hi x hx => by
    rcases h.cls i hi x hx with h1 | h1
    · rcases List.mem_cons.1 h1 with rfl | h1
      · exact .inr hs
      · exact .inl h1
    · exact .inr h1
  here := by
    rcases h.here with h1 | h1
    · rcases List.mem_cons.1 h1 with rfl | h1
      · exact .inr hs
      · exact .inl h1
    · exact .inr h1

theorem MetInv.visit {n : Nt} {back : Bool} {a t : Int} {todo : List Int} {seen : List Bool} (hr : ∀ f ∈ n.flows, (0 ≤ f.fr ∧ f.fr < n.nodes.length) ∧ 0 ≤ f.to ∧ f.to < n.nodes.length) (h : MetInv n back a (t :: todo) seen) :
    MetInv n back a (todo ++ n.flows.filterMap (nextF back t)) (seen.set t.toNat true) where
  len := by simp [h.len]
  rng := fun x hx => by
    rcases List.mem_append.1 hx with hx | hx
    · exact h.rng x (List.mem_cons_of_mem _ hx)
    · obtain ⟨f, hf, e⟩ := List.mem_filterMap.1 hx
      have := hr f hf
      simp only [nextF] at e
      split at e <;> split at e <;> simp at e <;> subst e <;> omega
  snd := fun i hi => by
    by_cases e : t.toNat = i
    · have h0 := h.rng t List.mem_cons_self
      have := h.snd2 t List.mem_cons_self
      rw [← e, show ((t.toNat : Nat) : Int) = t by omega]; exact this
    · rw [List.getElem?_set_ne e] at hi; exact h.snd i hi
  snd2 := fun x hx => by
    rcases List.mem_append.1 hx with hx | hx
    · exact h.snd2 x (List.mem_cons_of_mem _ hx)
    · exact .step (h.snd2 t List.mem_cons_self) (mem_next.1 hx)
  cls := fun i hi x hx => by
    have h0 := h.rng t List.mem_cons_self
    have hlt : t.toNat < seen.length := by rw [h.len]; omega
    by_cases e : t.toNat = i
    · left
      rw [← e, show ((t.toNat : Nat) : Int) = t by omega] at hx
      exact List.mem_append_right _ (mem_next.2 hx)
    · rw [List.getElem?_set_ne e] at hi
      rcases h.cls i hi x hx with h1 | h1
      · rcases List.mem_cons.1 h1 with rfl | h1
        · right; rw [List.getElem?_set_self hlt]
        · exact .inl (List.mem_append_left _ h1)
      · right
        by_cases e2 : t.toNat = x.toNat
        · rw [← e2, List.getElem?_set_self hlt]
        · rw [List.getElem?_set_ne e2]; exact h1
  here := by
    have h0 := h.rng t List.mem_cons_self
    have hlt : t.toNat < seen.length := by rw [h.len]; omega
    rcases h.here with h1 | h1
    · rcases List.mem_cons.1 h1 with rfl | h1
      · right; rw [List.getElem?_set_self hlt]
      · exact .inl (List.mem_append_left _ h1)
    · right
      by_cases e2 : t.toNat = a.toNat
      · rw [← e2, List.getElem?_set_self hlt]
      · rw [List.getElem?_set_ne e2]; exact h1

theorem MetInv.done {n : Nt} {back : Bool} {a : Int} {seen : List Bool} (hr : ∀ f ∈ n.flows, (0 ≤ f.fr ∧ f.fr < n.nodes.length) ∧ 0 ≤ f.to ∧ f.to < n.nodes.length) (ha : 0 ≤ a) (h : MetInv n back a [] seen) (i : Nat) :
    seen[i]? = some true ↔ Rch (EdgeB n back) a i := by
  refine ⟨h.snd i, fun hi => ?_⟩
  have key : ∀ x : Int, Rch (EdgeB n back) a x → 0 ≤ x ∧ seen[x.toNat]? = some true := by
    intro x hx
    induction hx with
    | refl =>
      rcases h.here with h1 | h1
      · cases h1
      · exact ⟨ha, h1⟩
    | @step b c h1 h2 ih =>
      have e : ((b.toNat : Nat) : Int) = b := by have := ih.1; omega
      have hc : 0 ≤ c := by
        simp only [EdgeB, Edge] at h2
        split at h2 <;> obtain ⟨f, hf, h3, h4⟩ := h2 <;> have := hr f hf <;> omega
      rcases h.cls b.toNat ih.2 c (by rw [e]; exact h2) with h3 | h3
      · cases h3
      · exact ⟨hc, h3⟩
  have := (key i hi).2
  simpa using this

def unseen : List Bool → Nat
  | [] => 0
  | b :: bs => (if b = true then 0 else 1) + unseen bs
theorem unseen_set : ∀ (bs : List Bool) (i : Nat), bs[i]? = some false → unseen (bs.set i true) + 1 = unseen bs
  | [], i, h => by simp at h
  | b :: bs, 0, h => by simp at h; subst h; simp [unseen]; omega
  | b :: bs, i + 1, h => by
    have := unseen_set bs i (by simpa using h)
    simp [unseen]; omega
theorem unseen_le : ∀ (bs : List Bool), unseen bs ≤ bs.length
  | [] => by simp [unseen]
  | b :: bs => by have := unseen_le bs; cases b <;> simp [unseen] <;> omega
/-- closed: whatever is reached leads to what is reached -/
def Closed (fs : List Fl) (o : List Bool) : Prop := ∀ f ∈ fs, o[f.fr.toNat]? = some true → o[f.to.toNat]? = some true

def lgT (m d : Int) : Trm → Bool × Int
  | .mk _ _ ks => if (decide (m - 1 < 0) || decide (d > 40) || decide ((ks.length : Int) > 50)) = true then (true, m - 1) else lgs (m - 1) (d + 1) ks
where
  lgs (m d : Int) : List Trm → Bool × Int
  | [] => (false, m)
  | b :: bs => if (lgT m d b).1 = true then (true, (lgT m d b).2) else lgs (lgT m d b).2 d bs

theorem lgT_ge : ∀ (b : Trm) (m d : Int), m - (lgT m d b).2 ≥ 1
  | .mk op n ks, m, d => by
    rw [lgT]
    split
    · show m - (m - 1) ≥ 1; omega
    · have := go ks (m - 1) (d + 1); omega
where
  go : ∀ (bs : List Trm) (m d : Int), m - (lgT.lgs m d bs).2 ≥ 0
  | [], m, d => by rw [lgT.lgs]; show m - m ≥ 0; omega
  | b :: bs, m, d => by
    rw [lgT.lgs]
    have h1 := lgT_ge b m d
    split
    · show m - (lgT m d b).2 ≥ 0; omega
    · have := go bs (lgT m d b).2 d; omega

theorem lgT_lo : ∀ (b : Trm) (m d : Int), ¬ (lgT m d b).1 = true → -1 ≤ (lgT m d b).2
  | .mk op n ks, m, d, h => by
    rw [lgT] at h ⊢
    split at h
    · exact absurd rfl h
    · rename_i hc
      rw [if_neg hc]
      simp only [Bool.or_eq_true, decide_eq_true_eq, not_or] at hc
      exact go ks (m - 1) (d + 1) (by omega) h
where
  go : ∀ (bs : List Trm) (m d : Int), -1 ≤ m → ¬ (lgT.lgs m d bs).1 = true → -1 ≤ (lgT.lgs m d bs).2
  | [], m, d, hm, _ => by rw [lgT.lgs]; exact hm
  | b :: bs, m, d, hm, h => by
    rw [lgT.lgs] at h ⊢
    split at h
    · exact absurd rfl h
    · rename_i hc
      rw [if_neg hc]
      exact go bs _ d (lgT_lo b m d hc) h

theorem lgT_size : ∀ (b : Trm) (m d : Int), ¬ (lgT m d b).1 = true → sizeT b ≤ m - (lgT m d b).2
  | .mk op n ks, m, d, h => by
    rw [lgT] at h ⊢
    split at h
    · exact absurd rfl h
    · rename_i hc
      rw [if_neg hc, sizeT]
      have := go ks (m - 1) (d + 1) h
      omega
where
  go : ∀ (bs : List Trm) (m d : Int), ¬ (lgT.lgs m d bs).1 = true → sizeT.go bs ≤ m - (lgT.lgs m d bs).2
  | [], m, d, _ => by rw [sizeT.go, lgT.lgs]; show 0 ≤ m - m; omega
  | b :: bs, m, d, h => by
    rw [lgT.lgs] at h ⊢
    split at h
    · exact absurd rfl h
    · rename_i hc
      rw [if_neg hc, sizeT.go]
      have h1 := lgT_size b m d hc
      have h2 := go bs _ d h
      omega

def lgL (m : Int) (ts : List Trm) : Bool × Int := lgT.lgs m 1 ts
def termsN (n : Nt) : List Trm := n.nodes.map (·.t) ++ n.flows.map (·.c)
def largeN (n : Nt) : Bool := decide ((n.nodes.length : Int) > 30) || (decide ((n.flows.length : Int) > 50) || (lgL 2000 (termsN n)).1)

theorem size_mem : ∀ (bs : List Trm) {t : Trm}, t ∈ bs → sizeT t ≤ sizeT.go bs
  | [], _, h => by cases h
  | b :: bs, t, h => by
    rw [sizeT.go]
    have := sizeT_pos b
    have h0 := sizeT_pos.go bs
    rcases List.mem_cons.1 h with rfl | h
    · omega
    · have := size_mem bs h; omega

theorem large_size {n : Nt} (h : largeN n = false) : n.nodes.length ≤ 30 ∧ n.flows.length ≤ 50 ∧ ∀ t ∈ termsN n, sizeT t ≤ 3000 := by
  simp only [largeN, Bool.or_eq_false_iff, decide_eq_false_iff_not] at h
  refine ⟨by omega, by omega, fun t ht => ?_⟩
  have h1 : ¬ (lgL 2000 (termsN n)).1 = true := by rw [h.2.2]; decide
  have h2 := lgT_size.go (termsN n) 2000 1 h1
  have h3 := lgT_lo.go (termsN n) 2000 1 (by omega) h1
  have h4 := size_mem _ ht
  simp only [lgL] at h1
  omega
end Go.Proofs.YtifckjhggamefaaDoor
namespace Go.Proofs.YtifckjhggamefaaDoor
open Go Go.Vx
def oneW (k n a : Int) (ks : List Blk) (ls : List (Int × Int × Int)) : Prop :=
  1 ≤ k ∧ k ≤ 10 ∧ 0 ≤ n ∧ 0 ≤ a ∧ (k ≠ 7 → a = 0) ∧ (k ≠ 9 → ls = []) ∧ (k = 1 ∨ k = 10 ∨ k = 3 ∨ k = 9 → n = 0) ∧ (k = 1 ∨ k = 10 ∨ k = 2 ∨ k = 8 → ks = []) ∧ ∀ x ∈ ls, -1 ≤ x.1 ∧ -1 ≤ x.2.1 ∧ -1 ≤ x.2.2
def wellB : Blk → Prop
  | .mk k n a ks ls => oneW k n a ks ls ∧ go ks
where
  go : List Blk → Prop
  | [] => True
  | b :: bs => wellB b ∧ go bs

theorem wellB_bad : ∀ b, wellB b → badB b = false
  | .mk k n a ks ls, h => by
    rw [wellB] at h
    obtain ⟨⟨h1, h2, h3, h4, _, _, _, _, h5⟩, h6⟩ := h
    rw [badB, badOne, go ks h6, Bool.or_false]
    have h7 : ls.any badL = false := by
      rw [List.any_eq_false]
      intro x hx
      have := h5 x hx
      simp only [badL, Bool.or_eq_true, decide_eq_true_eq]
      omega
    rw [h7]
    simp only [Bool.or_eq_false_iff, decide_eq_false_iff_not, and_true]
    omega
where
  go : ∀ bs, wellB.go bs → badB.go bs = false
  | [], _ => by rw [badB.go]
  | b :: bs, h => by
    rw [wellB.go] at h
    rw [badB.go, wellB_bad b h.1, go bs h.2]; rfl

def isDg (c : UInt8) : Bool := decide (48 ≤ c.toNat) && decide (c.toNat ≤ 57)
def dgL (n : Nat) : List UInt8 := if n < 10 then [UInt8.ofNat (48 + n)] else dgL (n / 10) ++ [UInt8.ofNat (48 + n % 10)]
def dgZ (n : Int) : List UInt8 := if n < 0 then [45, 49] else dgL n.toNat
def valL (l : List UInt8) : Nat := l.foldl (fun a c => 10 * a + (c.toNat - 48)) 0
def noDg (l : List UInt8) : Prop := ∀ c r, l = c :: r → isDg c = false

theorem chr_nat {d : Nat} (h : d < 10) : (UInt8.ofNat (48 + d)).toNat = 48 + d := by
  rw [UInt8.toNat_ofNat']; omega
theorem dgL_dg : ∀ (n : Nat), ∀ c ∈ dgL n, isDg c = true := by
  intro n
  induction n using Nat.strongRecOn with
  | _ n ih =>
    intro c hc
    rw [dgL] at hc
    split at hc
    · rename_i h
      rw [List.mem_singleton] at hc
      subst hc
      simp only [isDg, chr_nat h, Bool.and_eq_true, decide_eq_true_eq]; omega
    · rcases List.mem_append.1 hc with hc | hc
      · exact ih (n / 10) (by omega) c hc
      · rw [List.mem_singleton] at hc
        subst hc
        simp only [isDg, chr_nat (Nat.mod_lt n (by decide : 10 > 0)), Bool.and_eq_true, decide_eq_true_eq]; omega
theorem dgL_val : ∀ (n : Nat), valL (dgL n) = n := by
  intro n
  induction n using Nat.strongRecOn with
  | _ n ih =>
    rw [dgL]
    split
    · rename_i h
      simp only [valL, List.foldl_cons, List.foldl_nil, chr_nat h]; omega
    · have := ih (n / 10) (by omega)
      rw [valL] at this
      rw [valL, List.foldl_append, this]
      simp only [List.foldl_cons, List.foldl_nil, chr_nat (Nat.mod_lt n (by decide : 10 > 0))]; omega
theorem dgL_ne (n : Nat) : ∃ c r, dgL n = c :: r := by
  rw [dgL]
  split
  · exact ⟨_, _, rfl⟩
  · cases h : dgL (n / 10) with
    | nil => exact ⟨_, _, rfl⟩
    | cons c r => exact ⟨_, _, rfl⟩

theorem span_eq : ∀ (u v x y : List UInt8), (∀ c ∈ u, isDg c = true) → (∀ c ∈ v, isDg c = true) → noDg x → noDg y → u ++ x = v ++ y → u = v ∧ x = y
  | [], [], x, y, _, _, _, _, h => ⟨rfl, h⟩
  | [], d :: v, x, y, _, hv, hx, _, h => by
    have := hx d (v ++ y) h
    rw [hv d List.mem_cons_self] at this; cases this
  | c :: u, [], x, y, hu, _, _, hy, h => by
    have := hy c (u ++ x) h.symm
    rw [hu c List.mem_cons_self] at this; cases this
  | c :: u, d :: v, x, y, hu, hv, hx, hy, h => by
    simp only [List.cons_append, List.cons.injEq] at h
    obtain ⟨h1, h2⟩ := span_eq u v x y (fun c hc => hu c (List.mem_cons_of_mem _ hc)) (fun c hc => hv c (List.mem_cons_of_mem _ hc)) hx hy h.2
    exact ⟨by rw [h.1, h1], h2⟩

theorem dgL_inj {m n : Nat} {x y : List UInt8} (hx : noDg x) (hy : noDg y) (h : dgL m ++ x = dgL n ++ y) : m = n ∧ x = y := by
  obtain ⟨h1, h2⟩ := span_eq _ _ _ _ (dgL_dg m) (dgL_dg n) hx hy h
  exact ⟨by rw [← dgL_val m, h1, dgL_val], h2⟩

theorem dgZ_inj {m n : Int} {x y : List UInt8} (hm : -1 ≤ m) (hn : -1 ≤ n) (hx : noDg x) (hy : noDg y) (h : dgZ m ++ x = dgZ n ++ y) : m = n ∧ x = y := by
  rw [dgZ, dgZ] at h
  split at h <;> split at h
  · simp only [List.cons_append, List.nil_append, List.cons.injEq, true_and] at h
    exact ⟨by omega, h⟩
  · obtain ⟨c, r, e⟩ := dgL_ne n.toNat
    have := dgL_dg n.toNat c (by rw [e]; exact List.mem_cons_self)
    rw [e] at h
    simp only [List.cons_append, List.cons.injEq] at h
    rw [← h.1] at this; cases this
  · obtain ⟨c, r, e⟩ := dgL_ne m.toNat
    have := dgL_dg m.toNat c (by rw [e]; exact List.mem_cons_self)
    rw [e] at h
    simp only [List.cons_append, List.cons.injEq] at h
    rw [h.1] at this; cases this
  · obtain ⟨h1, h2⟩ := dgL_inj hx hy h
    exact ⟨by omega, h2⟩

def nmL (k : Int) : List UInt8 := if k = 3 then [115, 101, 113] else if k = 4 then [112, 97, 114] else if k = 5 then [97, 108, 116] else if k = 6 then [112, 105, 99, 107] else if k = 7 then [108, 111, 111, 112] else [119, 101, 98]
def lnkL (x : Int × Int × Int) : List UInt8 := 32 :: 91 :: (dgZ x.1 ++ 32 :: (dgZ x.2.1 ++ 32 :: (dgZ x.2.2 ++ [93])))
def lnksL : List (Int × Int × Int) → List UInt8
  | [] => []
  | x :: ls => lnkL x ++ lnksL ls
def hdL (k n a : Int) : List UInt8 :=
  if k = 3 ∨ k = 9 then 40 :: nmL k else if k = 7 then 40 :: (nmL k ++ 58 :: (dgZ n ++ 47 :: dgZ a)) else 40 :: (nmL k ++ 58 :: dgZ n)
def txtL : Blk → List UInt8
  | .mk k n a ks ls => if k = 1 then [45] else if k = 2 then dgZ n else if k = 8 then 103 :: dgZ n else if k = 10 then [42] else
    if k = 9 then hdL k n a ++ (go ks ++ (lnksL ls ++ [41])) else hdL k n a ++ (go ks ++ [41])
where
  go : List Blk → List UInt8
  | [] => []
  | b :: bs => 32 :: (txtL b ++ go bs)

theorem ba_app (a b : ByteArray) : (a ++ b).data.toList = a.data.toList ++ b.data.toList := by rw [ByteArray.data_append, Array.toList_append]
theorem digN_list : ∀ n : Nat, (digN n).data.toList = dgL n := by
  intro n
  induction n using Nat.strongRecOn with
  | _ n ih =>
    rw [digN, dgL]
    split
    · rfl
    · rw [ba_app, ih (n / 10) (by omega)]; rfl
theorem dig_list (n : Int) : (dig n).data.toList = dgZ n := by
  rw [dig, dgZ]
  split
  · rfl
  · exact digN_list _
theorem nmB_list (k : Int) : (nmB k).data.toList = nmL k := by
  rw [nmB, nmL]
  repeat' split
  all_goals rfl
theorem linksT_list : ∀ (ls : List (Int × Int × Int)) (s : ByteArray), (linksT s ls).data.toList = s.data.toList ++ lnksL ls
  | [], s => by rw [linksT, lnksL, List.append_nil]
  | x :: ls, s => by
    rw [linksT, linksT_list ls, lnksL, ba_app, linkT]
    simp only [ba_app, dig_list, lnkL, List.append_assoc, List.cons_append, List.nil_append]
theorem headT_list (k n a : Int) : (headT k n a).data.toList = hdL k n a := by
  rw [headT, hdL]
  split
  · rw [ba_app, nmB_list]; rfl
  · split <;> simp only [ba_app, nmB_list, dig_list, List.append_assoc] <;> rfl
theorem textB_list : ∀ b, (textB b).data.toList = txtL b
  | .mk k n a ks ls => by
    rw [textB, txtL]
    split
    · rfl
    · split
      · exact dig_list n
      · split
        · rw [ba_app, dig_list]; rfl
        · split
          · rfl
          · split
            · rw [ba_app, linksT_list, go ks, headT_list]; simp only [List.append_assoc]
            · rw [ba_app, go ks, headT_list]; simp only [List.append_assoc]
where
  go : ∀ (bs : List Blk) (s : ByteArray), (textB.go s bs).data.toList = s.data.toList ++ txtL.go bs
  | [], s => by rw [textB.go, txtL.go, List.append_nil]
  | b :: bs, s => by
    rw [textB.go, txtL.go, go bs, ba_app, ba_app, textB_list b]; simp only [List.append_assoc]; rfl

/-- what stands behind a block's text: nothing, a blank, a bracket that closes -/
def endB (l : List UInt8) : Prop := ∀ c r, l = c :: r → c = 32 ∨ c = 41
/-- what stands behind a row of kids: a bracket that closes, or a blank and one that opens a link -/
def endK (l : List UInt8) : Prop := ∃ c r, l = c :: r ∧ (c = 41 ∨ (c = 32 ∧ ∃ s, r = 91 :: s))

theorem endB_dg {l : List UInt8} (h : endB l) : noDg l := by
  intro c r e
  rcases h c r e with rfl | rfl <;> decide
theorem endK_B {l : List UInt8} (h : endK l) : endB l := by
  obtain ⟨c, r, rfl, h⟩ := h
  intro c' r' e
  cases e
  rcases h with h | h
  · exact .inr h
  · exact .inl h.1
theorem go_endB (bs : List Blk) {l : List UInt8} (h : endK l) : endB (txtL.go bs ++ l) := by
  cases bs with
  | nil => rw [txtL.go]; exact endK_B h
  | cons b bs =>
    rw [txtL.go]
    intro c r e
    simp only [List.cons_append, List.cons.injEq] at e
    exact .inl e.1.symm
theorem lnks_endK (ls : List (Int × Int × Int)) (x : List UInt8) : endK (lnksL ls ++ 41 :: x) := by
  cases ls with
  | nil => exact ⟨41, x, rfl, .inl rfl⟩
  | cons y ls =>
    rw [lnksL, lnkL]
    exact ⟨32, _, rfl, .inr ⟨rfl, _, rfl⟩⟩

/-- how a text begins -/
def head8 (k : Int) (c : UInt8) : Prop := if k = 1 then c = 45 else if k = 2 then isDg c = true else if k = 8 then c = 103 else if k = 10 then c = 42 else c = 40
theorem dgZ_pos {n : Int} (h : 0 ≤ n) : dgZ n = dgL n.toNat := by rw [dgZ, if_neg (by omega)]
theorem txt_head {b : Blk} (h : wellB b) : ∃ c r, txtL b = c :: r ∧ c ≠ 91 ∧ ∀ k n a ks ls, b = .mk k n a ks ls → head8 k c := by
  obtain ⟨k, n, a, ks, ls⟩ := b
  rw [wellB, oneW] at h
  rw [txtL]
  split
  · rename_i e; exact ⟨45, [], rfl, by decide, fun _ _ _ _ _ e2 => by cases e2; rw [head8, if_pos e]⟩
  · rename_i e1
    split
    · rename_i e
      rw [dgZ_pos h.1.2.2.1]
      obtain ⟨c, r, e2⟩ := dgL_ne n.toNat
      have := dgL_dg n.toNat c (by rw [e2]; exact List.mem_cons_self)
      refine ⟨c, r, e2, ?_, fun _ _ _ _ _ e2 => by cases e2; rw [head8, if_neg e1, if_pos e]; exact this⟩
      intro h; subst h; exact absurd this (by decide)
    · rename_i e2
      split
      · rename_i e; exact ⟨103, _, rfl, by decide, fun _ _ _ _ _ e3 => by cases e3; rw [head8, if_neg e1, if_neg e2, if_pos e]⟩
      · rename_i e3
        split
        · rename_i e; exact ⟨42, _, rfl, by decide, fun _ _ _ _ _ e5 => by cases e5; rw [head8, if_neg e1, if_neg e2, if_neg e3, if_pos e]⟩
        · rename_i e4
          have : ∃ r, hdL k n a = 40 :: r := by
            rw [hdL]; split
            · exact ⟨_, rfl⟩
            · split <;> exact ⟨_, rfl⟩
          obtain ⟨r, hr⟩ := this
          have hh : ∀ k' n' a' ks' ls', Blk.mk k n a ks ls = .mk k' n' a' ks' ls' → head8 k' 40 := fun _ _ _ _ _ e5 => by cases e5; rw [head8, if_neg e1, if_neg e2, if_neg e3, if_neg e4]
          split <;> exact ⟨40, _, by rw [hr]; rfl, by decide, hh⟩

theorem lnks_inj : ∀ (xs ys : List (Int × Int × Int)) (u v : List UInt8), (∀ x ∈ xs, -1 ≤ x.1 ∧ -1 ≤ x.2.1 ∧ -1 ≤ x.2.2) → (∀ x ∈ ys, -1 ≤ x.1 ∧ -1 ≤ x.2.1 ∧ -1 ≤ x.2.2) → lnksL xs ++ 41 :: u = lnksL ys ++ 41 :: v → xs = ys ∧ u = v
  | [], [], u, v, _, _, h => by
    rw [lnksL] at h
    simpa using h
  | [], y :: ys, u, v, _, _, h => by
    rw [lnksL, lnksL, lnkL] at h
    simp at h
  | x :: xs, [], u, v, _, _, h => by
    rw [lnksL, lnksL, lnkL] at h
    simp at h
  | (x1, x2, x3) :: xs, (y1, y2, y3) :: ys, u, v, hx, hy, h => by
    rw [lnksL, lnksL, lnkL, lnkL] at h
    simp only [List.cons_append, List.append_assoc, List.cons.injEq, true_and, List.nil_append] at h
    have a1 := hx _ List.mem_cons_self
    have b1 := hy _ List.mem_cons_self
    simp only at a1 b1
    have nd : ∀ l, noDg (32 :: l) := fun l c r e => by cases e; decide
    have nd2 : ∀ l, noDg (93 :: l) := fun l c r e => by cases e; decide
    obtain ⟨rfl, h2⟩ := dgZ_inj a1.1 b1.1 (nd _) (nd _) h
    simp only [List.cons.injEq, true_and] at h2
    obtain ⟨rfl, h3⟩ := dgZ_inj a1.2.1 b1.2.1 (nd _) (nd _) h2
    simp only [List.cons.injEq, true_and] at h3
    obtain ⟨rfl, h4⟩ := dgZ_inj a1.2.2 b1.2.2 (nd2 _) (nd2 _) h3
    simp only [List.cons.injEq, true_and] at h4
    obtain ⟨rfl, h5⟩ := lnks_inj xs ys u v (fun x hx' => hx x (List.mem_cons_of_mem _ hx')) (fun x hx' => hy x (List.mem_cons_of_mem _ hx')) h4
    exact ⟨rfl, h5⟩

/-- the heads of what has kids -/
theorem hd_inj {k n a k2 n2 a2 : Int} {x y : List UInt8} (hk : k = 3 ∨ k = 4 ∨ k = 5 ∨ k = 6 ∨ k = 7 ∨ k = 9) (hk2 : k2 = 3 ∨ k2 = 4 ∨ k2 = 5 ∨ k2 = 6 ∨ k2 = 7 ∨ k2 = 9)
    (hn : 0 ≤ n) (hn2 : 0 ≤ n2) (ha : 0 ≤ a) (ha2 : 0 ≤ a2) (h3 : k = 3 ∨ k = 9 → n = 0) (h32 : k2 = 3 ∨ k2 = 9 → n2 = 0) (h7 : k ≠ 7 → a = 0) (h72 : k2 ≠ 7 → a2 = 0)
    (hx : endB x) (hy : endB y) (h : hdL k n a ++ x = hdL k2 n2 a2 ++ y) : k = k2 ∧ n = n2 ∧ a = a2 ∧ x = y := by
  have nd : ∀ l, noDg (47 :: l) := fun l c r e => by cases e; decide
  rcases hk with rfl | rfl | rfl | rfl | rfl | rfl <;> rcases hk2 with rfl | rfl | rfl | rfl | rfl | rfl <;>
    simp [hdL, nmL] at h
  · exact ⟨rfl, by rw [h3 (.inl rfl), h32 (.inl rfl)], by rw [h7 (by decide), h72 (by decide)], h⟩
  · obtain ⟨e1, e2⟩ := dgZ_inj (by omega) (by omega) (endB_dg hx) (endB_dg hy) h
    exact ⟨rfl, e1, by rw [h7 (by decide), h72 (by decide)], e2⟩
  · obtain ⟨e1, e2⟩ := dgZ_inj (by omega) (by omega) (endB_dg hx) (endB_dg hy) h
    exact ⟨rfl, e1, by rw [h7 (by decide), h72 (by decide)], e2⟩
  · obtain ⟨e1, e2⟩ := dgZ_inj (by omega) (by omega) (endB_dg hx) (endB_dg hy) h
    exact ⟨rfl, e1, by rw [h7 (by decide), h72 (by decide)], e2⟩
  · obtain ⟨e1, e2⟩ := dgZ_inj (by omega) (by omega) (nd _) (nd _) h
    simp only [List.cons.injEq, true_and] at e2
    obtain ⟨e3, e4⟩ := dgZ_inj (by omega) (by omega) (endB_dg hx) (endB_dg hy) e2
    exact ⟨rfl, e1, e3, e4⟩
  · exact ⟨rfl, by rw [h3 (.inr rfl), h32 (.inr rfl)], by rw [h7 (by decide), h72 (by decide)], h⟩

theorem head8_inj {k k2 : Int} {c : UInt8} (h : head8 k c) (h2 : head8 k2 c) : (k = 1 ∧ k2 = 1) ∨ (k = 2 ∧ k2 = 2) ∨ (k = 8 ∧ k2 = 8) ∨ (k = 10 ∧ k2 = 10) ∨ ((k ≠ 1 ∧ k ≠ 2 ∧ k ≠ 8 ∧ k ≠ 10) ∧ k2 ≠ 1 ∧ k2 ≠ 2 ∧ k2 ≠ 8 ∧ k2 ≠ 10) := by
  rw [head8] at h h2
  split at h
  · rename_i e; subst e; subst h
    repeat' split at h2
    all_goals first | (left; exact ⟨rfl, by assumption⟩) | exact absurd h2 (by decide)
  · split at h
    · rename_i e; subst e
      repeat' split at h2
      all_goals first | (right; left; exact ⟨rfl, by assumption⟩) | (subst h2; exact absurd h (by decide))
    · split at h
      · rename_i e; subst e; subst h
        repeat' split at h2
        all_goals first | (right; right; left; exact ⟨rfl, by assumption⟩) | exact absurd h2 (by decide)
      · split at h
        · rename_i e; subst e; subst h
          repeat' split at h2
          all_goals first | (right; right; right; left; exact ⟨rfl, by assumption⟩) | exact absurd h2 (by decide)
        · subst h
          repeat' split at h2
          all_goals first | exact absurd h2 (by decide) | (right; right; right; right; exact ⟨⟨by assumption, by assumption, by assumption, by assumption⟩, by assumption, by assumption, by assumption, by assumption⟩)

theorem txt_inj : ∀ (a b : Blk) (x y : List UInt8), wellB a → wellB b → endB x → endB y → txtL a ++ x = txtL b ++ y → a = b ∧ x = y
  | .mk k n a ks ls, .mk k2 n2 a2 ks2 ls2, x, y, h1, h2, hx, hy, h => by
    obtain ⟨c1, r1, e1, _, g1⟩ := txt_head h1
    obtain ⟨c2, r2, e2, _, g2⟩ := txt_head h2
    have hc : c1 = c2 := by rw [e1, e2] at h; simp only [List.cons_append, List.cons.injEq] at h; exact h.1
    subst hc
    have hk := head8_inj (g1 _ _ _ _ _ rfl) (g2 _ _ _ _ _ rfl)
    rw [wellB, oneW] at h1 h2
    obtain ⟨⟨p1, p2, p3, p4, p5, p6, p7, p8, p9⟩, p10⟩ := h1
    obtain ⟨⟨q1, q2, q3, q4, q5, q6, q7, q8, q9⟩, q10⟩ := h2
    rw [txtL, txtL] at h
    rcases hk with ⟨rfl, rfl⟩ | ⟨rfl, rfl⟩ | ⟨rfl, rfl⟩ | ⟨rfl, rfl⟩ | ⟨hk, hk2⟩
    · simp at h
      rw [p5 (by decide), q5 (by decide), p6 (by decide), q6 (by decide), p7 (by decide), q7 (by decide), p8 (by decide), q8 (by decide)]
      exact ⟨rfl, h⟩
    · simp at h
      obtain ⟨e1, e2⟩ := dgZ_inj (by omega) (by omega) (endB_dg hx) (endB_dg hy) h
      rw [p5 (by decide), q5 (by decide), p6 (by decide), q6 (by decide), p8 (by decide), q8 (by decide), e1]
      exact ⟨rfl, e2⟩
    · simp at h
      obtain ⟨e1, e2⟩ := dgZ_inj (by omega) (by omega) (endB_dg hx) (endB_dg hy) h
      rw [p5 (by decide), q5 (by decide), p6 (by decide), q6 (by decide), p8 (by decide), q8 (by decide), e1]
      exact ⟨rfl, e2⟩
    · simp at h
      rw [p5 (by decide), q5 (by decide), p6 (by decide), q6 (by decide), p7 (by decide), q7 (by decide), p8 (by decide), q8 (by decide)]
      exact ⟨rfl, h⟩
    · rw [if_neg hk.1, if_neg hk.2.1, if_neg hk.2.2.1, if_neg hk.2.2.2, if_neg hk2.1, if_neg hk2.2.1, if_neg hk2.2.2.1, if_neg hk2.2.2.2] at h
      have e41 : ∀ z : List UInt8, endK ([41] ++ z) := fun z => ⟨41, z, rfl, .inl rfl⟩
      have hh : (if k = 9 then hdL k n a ++ (txtL.go ks ++ (lnksL ls ++ [41])) else hdL k n a ++ (txtL.go ks ++ [41])) ++ x = hdL k n a ++ (txtL.go ks ++ (lnksL ls ++ 41 :: x)) := by
        split
        · simp
        · rename_i hk9
          rw [p6 hk9]; simp [lnksL]
      have hh2 : (if k2 = 9 then hdL k2 n2 a2 ++ (txtL.go ks2 ++ (lnksL ls2 ++ [41])) else hdL k2 n2 a2 ++ (txtL.go ks2 ++ [41])) ++ y = hdL k2 n2 a2 ++ (txtL.go ks2 ++ (lnksL ls2 ++ 41 :: y)) := by
        split
        · simp
        · rename_i hk9
          rw [q6 hk9]; simp [lnksL]
      rw [hh, hh2] at h
      obtain ⟨rfl, rfl, rfl, h3⟩ := hd_inj (by omega) (by omega) p3 q3 p4 q4 (fun e => p7 (by omega)) (fun e => q7 (by omega)) p5 q5 (go_endB ks (lnks_endK ls x)) (go_endB ks2 (lnks_endK ls2 y)) h
      obtain ⟨rfl, h4⟩ := go ks ks2 _ _ p10 q10 (lnks_endK ls x) (lnks_endK ls2 y) h3
      obtain ⟨rfl, h5⟩ := lnks_inj ls ls2 x y p9 q9 h4
      exact ⟨rfl, h5⟩
where
  go : ∀ (us bs : List Blk) (x y : List UInt8), wellB.go us → wellB.go bs → endK x → endK y → txtL.go us ++ x = txtL.go bs ++ y → us = bs ∧ x = y
  | [], [], x, y, _, _, _, _, h => by rw [txtL.go] at h; exact ⟨rfl, h⟩
  | [], b :: bs, x, y, _, hb, hx, _, h => by
    rw [wellB.go] at hb
    rw [txtL.go, txtL.go] at h
    obtain ⟨c, r, rfl, hc⟩ := hx
    obtain ⟨c2, r2, e2, g, _⟩ := txt_head hb.1
    simp only [List.nil_append, List.cons_append, List.cons.injEq] at h
    rcases hc with rfl | ⟨rfl, s, rfl⟩
    · exact absurd h.1 (by decide)
    · rw [e2] at h
      simp only [List.cons_append, List.cons.injEq] at h
      exact absurd h.2.1.symm g
  | a :: us, [], x, y, ha, _, _, hy, h => by
    rw [wellB.go] at ha
    rw [txtL.go, txtL.go] at h
    obtain ⟨c, r, rfl, hc⟩ := hy
    obtain ⟨c2, r2, e2, g, _⟩ := txt_head ha.1
    simp only [List.nil_append, List.cons_append, List.cons.injEq] at h
    rcases hc with rfl | ⟨rfl, s, rfl⟩
    · exact absurd h.1 (by decide)
    · rw [e2] at h
      simp only [List.cons_append, List.cons.injEq] at h
      exact absurd h.2.1 g
  | a :: us, b :: bs, x, y, ha, hb, hx, hy, h => by
    rw [wellB.go] at ha hb
    rw [txtL.go, txtL.go] at h
    simp only [List.cons_append, List.cons.injEq, true_and, List.append_assoc] at h
    obtain ⟨rfl, h2⟩ := txt_inj a b _ _ ha.1 hb.1 (go_endB us hx) (go_endB bs hy) h
    obtain ⟨rfl, h3⟩ := go us bs x y ha.2 hb.2 hx hy h2
    exact ⟨rfl, h3⟩

theorem text_apart {a b : Blk} (ha : wellB a) (hb : wellB b) (h : textB a = textB b) : a = b := by
  have h2 : txtL a = txtL b := by rw [← textB_list, h, textB_list]
  have en : endB [] := fun c r e => by cases e
  exact (txt_inj a b [] [] ha hb en en (by rw [List.append_nil, List.append_nil, h2])).1

theorem lksEq_eq : ∀ {xs ys : List (Int × Int × Int)}, lksEq xs ys = true → xs = ys
  | [], [], _ => rfl
  | [], _ :: _, h => by cases h
  | _ :: _, [], h => by cases h
  | (x1, x2, x3) :: xs, (y1, y2, y3) :: ys, h => by
    rw [lksEq, lkEq] at h
    simp only [Bool.and_eq_true, beq_iff_eq] at h
    rw [h.1.1, h.1.2.1, h.1.2.2, lksEq_eq h.2]
theorem sameB_eq : ∀ {a b : Blk}, sameB a b = true → a = b
  | .mk k n a ks ls, .mk k2 n2 a2 ks2 ls2, h => by
    rw [sameB] at h
    simp only [Bool.and_eq_true, beq_iff_eq] at h
    obtain ⟨⟨⟨⟨rfl, rfl⟩, rfl⟩, h4⟩, h5⟩ := h
    rw [lksEq_eq h4, go h5]
where
  go : ∀ {xs ys : List Blk}, sameB.go xs ys = true → xs = ys
  | [], [], _ => rfl
  | [], _ :: _, h => by rw [sameB.go] at h; cases h
  | x :: xs, [], h => by rw [sameB.go] at h; cases h
  | x :: xs, y :: ys, h => by
    rw [sameB.go] at h
    simp only [Bool.and_eq_true] at h
    rw [sameB_eq h.1, go h.2]

theorem toList_inj {a b : ByteArray} (h : a.toList = b.toList) : a = b := by
  rw [ByteArray.toList_eq, ByteArray.toList_eq] at h
  exact ByteArray.ext (Array.toList_inj.1 h)
theorem apart_same {a b : Blk} (ha : wellB a) (hb : wellB b) : ((textB a).toList == (textB b).toList) = sameB a b := by
  cases h : sameB a b with
  | true => rw [sameB_eq h]; exact beq_self_eq_true _
  | false =>
    rw [beq_eq_false_iff_ne]
    intro e
    rw [text_apart ha hb (toList_inj e), sameB_refl] at h; cases h

end Go.Proofs.YtifckjhggamefaaDoor
