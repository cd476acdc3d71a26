/- Rounds: which blocks are the same. No condition. -/
import Derived.Test.YtifckjhggamefaaDoorAt
import Derived.Test.YtifckjhggamefaaDoorPa
import Derived.Test.YtifckjhggamefaaDoorGa
import Derived.Test.YtifckjhggamefaaDoorPb
set_option linter.unusedSimpArgs false
set_option linter.unusedVariables false
set_option linter.unusedSectionVars false
namespace Go.Proofs.YtifckjhggamefaaDoor
open Go Go.Vx
set_option maxHeartbeats 4000000
set_option maxRecDepth 10000
section
end
theorem isT_K {b : Trm} {op n : Int} {K : D} (h : IsT b op n K) : ∃ r, IsS 3 r K := by
 cases b
 rw [IsT] at h
 obtain ⟨_, _, _, _, rows, h1, _⟩ := h
 exact ⟨_, h1⟩
def findT (p : Trm -> Bool) (i : Nat) : List Trm -> Option Nat
 | [] => none
 | b :: bs => if p b = true then some i else findT p (i + 1) bs
theorem findT_any (p : Trm -> Bool) : ∀ (bs : List Trm) (i : Nat), (findT p i bs).isSome = bs.any p
 | [], _ => rfl
 | b :: bs, i => by
  rw [findT, List.any_cons]
  cases p b with
  | true => rfl
  | false => simpa using findT_any p bs (i + 1)
theorem idx_ev {p : Trm -> Bool} {g : FuncId} {cap : List Nat} {bx : List Box} (hcap : cap.all (fun l => decide (l < bx.length)) = true) : ∀ (bs : List Trm) {rows rs : List (List D)} {K : D} {i : Nat}, IsS 3 rows K -> rows.drop i = rs -> IsT.IsTs bs rs -> rows.length < 9223372036854775808 →
  (∀ b ∈ bs, ∀ {op n : Int} {K' : D}, IsT b op n K' -> ev cfg (.call g ([.agg [I op, I n, .dat K']] ++ cap.map fun l => .ptr l 0) bx) = some (.ret (B (p b)) none)) →
  ev cfg (.loop 100 2 (q0 bx (sh100_2 (.dat K) (.clo g cap) (I rows.length) (I i)))) =
   some (match findT p i bs with | some j => .loop .ret (q0 bx (se100_2 (I j))) | none => .loop (.exit 0) (q0 bx (se100_2 .dead)))
 | [], rows, rs, K, i, hK, hr, hbs, hmax, hp => by
  rw [IsT.IsTs] at hbs
  subst hbs
  exact es (e84 hcap (drop_nil hr))
 | b :: bs, rows, rs, K, i, hK, hr, hbs, hmax, hp => by
  rw [IsT.IsTs] at hbs
  obtain ⟨op, n, K', rest, rfl, hB, hrest⟩ := hbs
  obtain ⟨hget, hr', hlt⟩ := drop_cons hr
  have h1 := r84 hK hget hlt hmax hcap (hp b (mcs ..) hB)
  rw [findT]
  cases hpb : p b with
  | true =>
   rw [hpb, if_pos rfl] at h1
   rw [if_pos rfl]
   exact es h1
  | false =>
   rw [hpb, if_neg (by decide)] at h1
   rw [if_neg (by decide)]
   exact es (h1.trans (idx_ev hcap bs hK hr' hrest hmax fun b hb => hp b (mcm _ hb)))
theorem cf_ev {p : Trm -> Bool} {g : FuncId} {cap : List Nat} {bx : List Box} (hcap : cap.all (fun l => decide (l < bx.length)) = true) {bs : List Trm} {rows : List (List D)} {K : D} (hK : IsS 3 rows K) (hbs : IsT.IsTs bs rows) (hmax : bs.length < 9223372036854775808)
  (hp : ∀ b ∈ bs, ∀ {op n : Int} {K' : D}, IsT b op n K' -> ev cfg (.call g ([.agg [I op, I n, .dat K']] ++ cap.map fun l => .ptr l 0) bx) = some (.ret (B (p b)) none)) :
  ev cfg (.call 96 [.dat K, .clo g cap] bx) = some (.ret (B (bs.any p)) none) := by
 have h := idx_ev hcap bs (i := 0) hK rfl hbs (by rw [isTs_len hbs]; exact hmax) hp
 have h2 := es (f84 (r := findT p 0 bs) hK h)
 have h3 := es (f63 hK h2)
 rw [<- findT_any p bs 0, h3]
 cases findT p 0 bs with
 | none => rfl
 | some j =>
  have : decide (idxI (some j) >= 0) = true := by simp [idxI]
  simp only [this, Option.isSome_some]
theorem deepT_any (d : Int) : ∀ bs : List Trm, bs.any (deepT d) = deepT.go d bs
 | [] => by rw [deepT.go]; rfl
 | b :: bs => by rw [deepT.go, List.any_cons, deepT_any d bs]
def DeepP (b : Trm) : Prop := ∀ {d op n : Int} {K : D}, IsT b op n K -> 0 <= d -> d + depT b <= 1000000000 -> ∀ bx : List Box, ev cfg (.call 94 [.agg [I op, I n, .dat K], I d] bx) = some (.ret (B (deepT d b)) none)
theorem tdeep_ev : ∀ (b : Trm) {d op n : Int} {K : D}, IsT b op n K -> 0 <= d -> d + depT b <= 1000000000 -> ∀ bx : List Box, ev cfg (.call 94 [.agg [I op, I n, .dat K], I d] bx) = some (.ret (B (deepT d b)) none)
 | .mk _ _ ks, d, op, n, K, h, hd, hz, bx => by
  rw [IsT] at h
  obtain ⟨rfl, rfl, _, _, rows, hK, hks, hmax⟩ := h
  rw [deepT, <- deepT_any]
  rw [depT] at hz
  refine es (f61 hK fun c => cf_ev (p := deepT (d + 1)) (by simp) hK hks hmax fun b hb op n K' hB => ?_)
  have hle := all_le ks 0 b hb
  obtain ⟨r, hK'⟩ := isT_K hB
  have := (depT_le b).1
  exact es (f82 (d := d) hK' (by simp) (by simp) (wrap_lo (by omega) (by omega)) (all ks b hb hB (by omega) (by omega)))
where
 all : ∀ (bs : List Trm), ∀ b ∈ bs, DeepP b
  | [], b, h => by cases h
  | c :: cs, b, h => (List.mem_cons.1 h).elim (fun e => e ▸ (fun h1 => tdeep_ev c h1)) fun h => all cs b h
 all_le : ∀ (bs : List Trm) (m : Int), ∀ b ∈ bs, depT b <= depT.go m bs
 | [], _, b, h => by cases h
 | c :: cs, m, b, h => by
  rw [depT.go]
  rcases List.mem_cons.1 h with h | h
  ·subst h
   have := (go_ge cs (if m < depT b then depT b else m))
   split at this <;> split <;> omega
  ·exact all_le cs _ b h
 go_ge : ∀ (bs : List Trm) (m : Int), m <= depT.go m bs
 | [], m => by rw [depT.go]; omega
 | c :: cs, m => by
  rw [depT.go]
  have := go_ge cs (if m < depT c then depT c else m)
  split at this <;> split <;> omega
theorem shapT_any : ∀ bs : List Trm, bs.any (fun b => !shapT b) = !shapT.go bs
 | [] => by rw [shapT.go]; rfl
 | b :: bs => by rw [shapT.go, List.any_cons, shapT_any bs, Bool.not_and]
theorem nodeOk_1 (n : Int) (l : Nat) : nodeOk 1 n l = ((l : Int) == 0 && decide (n >= 0) && decide (n <= 1099511627776)) := by
 rw [nodeOk, if_pos rfl]
 have : (l == 0) = ((l : Int) == 0) := by rw [Bool.eq_iff_iff]; simp
 rw [this]
theorem nodeOk_2 (n : Int) (l : Nat) : nodeOk 2 n l = ((l : Int) == 0 && decide (n >= 0) && decide (n < 4)) := by
 rw [nodeOk, if_neg (by decide), if_pos rfl]
 have : (l == 0) = ((l : Int) == 0) := by rw [Bool.eq_iff_iff]; simp
 rw [this]
def ShapP (b : Trm) : Prop := ∀ {op n : Int} {K : D}, IsT b op n K -> ∀ bx : List Box, ev cfg (.call 95 [.agg [I op, I n, .dat K]] bx) = some (.ret (B (shapT b)) none)
theorem shap_ev : ∀ (b : Trm) {op n : Int} {K : D}, IsT b op n K -> ∀ bx : List Box, ev cfg (.call 95 [.agg [I op, I n, .dat K]] bx) = some (.ret (B (shapT b)) none)
 | .mk _ _ ks, op, n, K, h, bx => by
  rw [IsT] at h
  obtain ⟨rfl, rfl, _, _, rows, hK, hks, hmax⟩ := h
  rw [shapT]
  have hrl := isTs_len hks
  by_cases e1 : op = 1
  ·subst e1
   rw [es (f62_1 hK hrl), <- nodeOk_1]
   cases hn : nodeOk 1 n ks.length with
   | false => rfl
   | true =>
    rw [nodeOk_1] at hn
    simp at hn
    rw [hn.1.1, shapT.go]; rfl
  ·by_cases e2 : op = 2
   ·subst e2
    rw [es (f62_2 hK hrl), <- nodeOk_2]
    cases hn : nodeOk 2 n ks.length with
    | false => rfl
    | true =>
     rw [nodeOk_2] at hn
     simp at hn
     rw [hn.1.1, shapT.go]; rfl
   ·have h1 : (op == 1) = false := by simpa using e1
    have h2 : (op == 2) = false := by simpa using e2
    have hno : nodeOk op n ks.length = (okOp op && n == 0 && ks.length == arity op) := by rw [nodeOk, if_neg e1, if_neg e2]
    rw [hno]
    by_cases hb : (decide (op < 3) || decide (op > 14) || n != 0) = true
    ·rw [es (f62_no hK h1 h2 hb)]
     have : (okOp op && n == 0) = false := by
      rw [Bool.eq_false_iff]
      intro h
      simp only [okOp, Bool.and_eq_true, dqE, beq_iff_eq] at h
      simp only [Bool.or_eq_true, dqE, bne_iff_ne, ne_eq] at hb
      omega
     rw [this]; rfl
    ·rw [Bool.not_eq_true, Bool.or_eq_false_iff, Bool.or_eq_false_iff] at hb
     obtain ⟨⟨c1, c2⟩, c3⟩ := hb
     have hok : okOp op = true := by
      simp only [okOp, Bool.and_eq_true, dqE]
      simp only [decide_eq_false_iff_not] at c1 c2
      omega
     have hn : (n == 0) = true := by simpa using c3
     have hkids := fun bx : List Box => cf_ev (p := fun b => !shapT b) (g := 99) (cap := []) (bx := bx) rfl hK hks hmax fun b hb op n K' hB => by
      obtain ⟨r, hK'⟩ := isT_K hB
      exact es (f83 hK' (all ks b hb hB))
     rw [es (f62_op hK hrl h1 h2 c1 c2 c3 (wd hok) hkids), shapT_any, hok, hn]
     have : (!((ks.length : Int) != (arity op : Int))) = (ks.length == arity op) := by rw [Bool.eq_iff_iff]; simp; omega
     rw [this, Bool.not_not]
     rfl
where
 all : ∀ (bs : List Trm), ∀ b ∈ bs, ShapP b
  | [], b, h => by cases h
  | c :: cs, b, h => (List.mem_cons.1 h).elim (fun e => e ▸ (fun h1 => shap_ev c h1)) fun h => all cs b h
theorem twrong_ev (b : Trm) {op n : Int} {K : D} (h : IsT b op n K) (hz : sizeT b <= 1000000) (bx : List Box) : ev cfg (.call 90 [.agg [I op, I n, .dat K]] bx) = some (.ret (I (wrongT b)) none) := by
 obtain ⟨r, hK⟩ := isT_K h
 have := (depT_le b).2
 exact es (f43 hK (tdeep_ev b h (by omega) (by omega)) (shap_ev b h))
theorem typT_any (op : Int) : ∀ bs : List Trm, bs.any (fun b => typT b != tyOf (asked op)) = !typT.go op bs
 | [] => by rw [typT.go]; rfl
 | b :: bs => by
  rw [typT.go, List.any_cons, typT_any op bs, Bool.not_and]; rfl
theorem node_op {op n : Int} {l : Nat} (h : nodeOk op n l = true) (e1 : ¬ op = 1) (e2 : ¬ op = 2) : okOp op = true /\ n = 0 /\ l = arity op := by
 rw [nodeOk, if_neg e1, if_neg e2] at h
 simp only [Bool.and_eq_true, beq_iff_eq] at h
 exact ⟨h.1.1, h.1.2, h.2⟩
def TypP (b : Trm) : Prop := ∀ {op n : Int} {K : D}, IsT b op n K -> shapT b = true -> ∀ bx : List Box, ev cfg (.call 91 [.agg [I op, I n, .dat K]] bx) = some (.ret (I (typT b)) none)
theorem typ_ev : ∀ (b : Trm) {op n : Int} {K : D}, IsT b op n K -> shapT b = true -> ∀ bx : List Box, ev cfg (.call 91 [.agg [I op, I n, .dat K]] bx) = some (.ret (I (typT b)) none)
 | .mk _ _ ks, op, n, K, h, hs, bx => by
  rw [IsT] at h
  obtain ⟨rfl, rfl, _, _, rows, hK, hks, hmax⟩ := h
  rw [shapT, Bool.and_eq_true] at hs
  rw [typT]
  by_cases e : op = 1 ∨ op = 2
  ·rw [if_pos e]
   exact es (f44_leaf hK (by simpa using e))
  ·rw [if_neg e]
   have e1 : ¬ op = 1 := fun h => e (.inl h)
   have e2 : ¬ op = 2 := fun h => e (.inr h)
   obtain ⟨hok, _, _⟩ := node_op hs.1 e1 e2
   have := es (f44_op (bx := bx) (n := n) (b := ks.any fun b => typT b != tyOf (asked op)) hK (by simpa using e1) (by simpa using e2) (wd hok) fun c => cf_ev (p := fun b => typT b != tyOf (asked op)) (by simp) hK hks hmax fun b hb op' n' K' hB => by
    obtain ⟨r, hK'⟩ := isT_K hB
    exact es (f64 (l := bx.length + 1) (s := bsL (wordL op)) (ar := arity op) (ask := tyOf (asked op)) (out := tyOf (truth op)) hK' (by simp) (by simp) (all ks b hb hB (kids ks hs.2 b hb))))
   rw [this, typT_any]
   cases typT.go op ks <;> rfl
where
 all : ∀ (bs : List Trm), ∀ b ∈ bs, TypP b
  | [], b, h => by cases h
  | c :: cs, b, h => (List.mem_cons.1 h).elim (fun e => e ▸ (fun h1 => typ_ev c h1)) fun h => all cs b h
 kids : ∀ (bs : List Trm), shapT.go bs = true -> ∀ b ∈ bs, shapT b = true
 | [], _, b, h => by cases h
 | c :: cs, hs, b, h => by
  rw [shapT.go, Bool.and_eq_true] at hs
  rcases List.mem_cons.1 h with h | h
  ·subst h; exact hs.1
  ·exact kids cs hs.2 b h
def checkT (t : Trm) : Int × Int := if wrongT t = 0 then (if typT t = 0 then (0, 30) else (typT t, 0)) else (0, wrongT t)
theorem wrongT_zero {t : Trm} (h : wrongT t = 0) : deepT 1 t = false /\ shapT t = true := by
 unfold wrongT at h
 split at h
 ·cases h
 ·rename_i hd
  split at h
  ·rename_i hs
   exact ⟨by simpa using hd, hs⟩
  ·cases h
theorem check_ev (b : Trm) {op n : Int} {K : D} (h : IsT b op n K) (hz : sizeT b <= 1000000) (bx : List Box) : ev cfg (.call 82 [.agg [I op, I n, .dat K]] bx) = some (.ret (.tup [I (checkT b).1, I (checkT b).2]) none) := by
 obtain ⟨r, hK⟩ := isT_K h
 unfold checkT
 by_cases hw : wrongT b = 0
 ·rw [if_pos hw]
  have hw' := twrong_ev b h hz
  rw [hw] at hw'
  rw [es (f21_ok hK hw' (typ_ev b h (wrongT_zero hw).2))]
  by_cases ht : typT b = 0
  ·rw [if_pos ht, ht]; rfl
  ·rw [if_neg ht]
   have : (typT b == 0) = false := by simpa using ht
   rw [this]; rfl
 ·rw [if_neg hw]
  exact es (f21_bad hK (by simpa using hw) (twrong_ev b h hz))
theorem isB_one {b : Blk} {k n a : Int} {K L : D} (h : IsB b k n a K L) : K.oneC = true /\ L.oneC = true := by
 cases b
 rw [IsB] at h
 obtain ⟨_, _, _, _, _, _, rows, ⟨_, _, _, h1⟩, _, _, ⟨_, _, _, h2⟩, _⟩ := h
 exact ⟨h1, h2⟩
theorem big_ev : ∀ (b : Blk) {k n a : Int} {K L : D} {m d : Int} {l : Nat} {bx : List Box}, IsB b k n a K L -> -1 <= m -> m <= 1000000 -> 0 <= d -> d <= 61 -> bx[l]? = some [I m] →
  ev cfg (.call 6 [.agg [I k, I n, I a, .dat K, .dat L], .ptr l 0, I d] bx) = some (.ret (B (bigB m d b).1) (some ⟨bx.set l [I (bigB m d b).2], l, false⟩))
 | .mk k n a ks ls, _, _, _, K, L, m, d, l, bx, h, hm, hm2, hd, hd2, hb => by
  rw [IsB] at h
  obtain ⟨rfl, rfl, rfl, _, _, _, rows, hK, hks, hmax, hL, _, _⟩ := h
  have hl : l < bx.length := (gsi.1 hb).1
  apply ev_step
  show stepJ (ev cfg) cfg _ = _
  rw [big_first (res := bigB.bigs (m - 1) (d + 1) ks) hK hL hl hb (wrap_lo (by omega) (by omega)) (isBs_len hks) ?_]
  ·rw [bigB]; split <;> rfl
  ·intro c1 c2 c hc
   have := loop ks (bx := bx.set l [I (m - 1)]) (d := d) (l := l) (m := m - 1) (i := 0) (c := c) hK rfl hks (by rw [(isBs_len hks)]; exact hmax) (by simp at c1; omega) (by omega) hd (by simpa using c2) (by simp [hl]) (by simpa using hc)
   simp only [lls, List.set_set] at this
   exact this
where
 loop : ∀ (bs : List Blk) {rows rs : List (List D)} {K : D} {m d : Int} {l i : Nat} {bx : List Box} {c : Box}, IsS 5 rows K -> rows.drop i = rs -> IsB.IsBs bs rs -> rows.length < 9223372036854775808 -> -1 <= m -> m <= 1000000 -> 0 <= d -> d <= 60 -> bx[l]? = some [I m] -> c.all (cellLt (bx.length + 1)) = true →
  ev cfg (.loop 6 5 ⟨(sh6_5 (.ptr l 0) (I d) (.dat K) (I rows.length) (I i)), bx ++ [c], bx.length, some l, false⟩) =
   some (if (bigB.bigs m (d + 1) bs).1 = true then .loop .ret ⟨(se6_5 (B true)), bx.set l [I (bigB.bigs m (d + 1) bs).2] ++ [c], bx.length, some l, false⟩
   else .loop (.exit 0) ⟨(se6_5 .dead), bx.set l [I (bigB.bigs m (d + 1) bs).2] ++ [c], bx.length, some l, false⟩)
 | [], rows, rs, K, m, d, l, i, bx, c, hK, hr, hbs, hmax, hm, hm2, hd, hd2, hb, hc => by
  have hl : l < bx.length := (gsi.1 hb).1
  rw [IsB.IsBs] at hbs
  subst hbs
  simp only [bigB.bigs, Bool.false_eq_true, if_false]
  apply ev_step
  show stepJ (ev cfg) cfg _ = _
  rw [big_end hl hc (drop_nil hr), set_same hb]
 | b :: bs, rows, rs, K, m, d, l, i, bx, c, hK, hr, hbs, hmax, hm, hm2, hd, hd2, hb, hc => by
  have hl : l < bx.length := (gsi.1 hb).1
  rw [IsB.IsBs] at hbs
  obtain ⟨k, n, a, K', L', rest, rfl, hB, hrest⟩ := hbs
  obtain ⟨hget, hr', hlt⟩ := drop_cons hr
  have hb1 := fun (bx' : List Box) (h : bx'[l]? = some [I m]) (_ : l < bx'.length) => big_ev b (d := d + 1) hB hm hm2 (by omega) (by omega) h
  have hst := big_round (res := bigB m (d + 1) b) (d := d) hK hl hb hc hget hlt hmax (wrap_lo (by omega) (by omega)) (isB_one hB).1 (isB_one hB).2 hb1
  rw [bigB.bigs]
  by_cases hres : (bigB m (d + 1) b).1 = true
  ·rw [if_pos hres] at hst
   rw [if_pos hres, if_pos rfl]
   exact es hst
  ·rw [if_neg hres] at hst
   rw [if_neg hres]
   have hge := bigB_ge b m (d + 1)
   have := loop bs (bx := bx.set l [I (bigB m (d + 1) b).2]) (l := l) (m := (bigB m (d + 1) b).2) (i := i + 1) (d := d) (c := c) hK hr' hrest hmax (bigB_lo b m (d + 1) hres) (by omega) hd hd2 (by simp [hl]) (by simpa using hc)
   simp only [lls, List.set_set] at this
   exact es (hst.trans this)
section
variable {bx : List Box} {c : Box} {fr r : List (List D)} {N F K : D} {i l : Nat} {k a op n : Int} {rs : List (List D)} {v : Bool}
theorem none_r (hK : IsS 3 r K) : stepJ (ev cfg) cfg (.call 64 [.agg [I op, I n, .dat K]] bx) = some (.ret (B (op == 0 && (n == 0 && (r.length : Int) == 0))) none) := by
 obtain ⟨w, h1, h2, h3⟩ := hK
 cases c1 : (op == 0) <;> cases c2 : (n == 0) <;> simp (maxSteps := 2000000) only [go_sem, seval, h1, h3, c1, c2]
theorem of_r {ty er kind : Int} (hK : K.oneC = true) (hc : ∀ bx : List Box, ev cfg (.call 82 [.agg [I op, I n, .dat K]] bx) = some (.ret (.tup [I ty, I er]) none)) :
  stepJ (ev cfg) cfg (.call 63 [.agg [I op, I n, .dat K], I kind] bx) = some (.ret (B (er == 0 && ty == kind)) none) := by
 cases c1 : (er == 0) <;> simp (maxSteps := 2000000) only [go_sem, seval, hK, hc, c1]
theorem right_4n (hK : K.oneC = true) (ho : ∀ bx : List Box, ev cfg (.call 63 [.agg [I op, I n, .dat K], I 1] bx) = some (.ret (B false) none)) :
  stepJ (ev cfg) cfg (.call 47 [.agg [I 4, I a, I op, I n, .dat K]] bx) = some (.ret (B false) none) := by
 simp (maxSteps := 2000000) only [go_sem, seval, hK, ho]
theorem right_4y (hK : K.oneC = true) (ho : ∀ bx : List Box, ev cfg (.call 63 [.agg [I op, I n, .dat K], I 1] bx) = some (.ret (B true) none)) (hz : ∀ bx : List Box, ev cfg (.call 64 [.agg [I 0, I 0, .dat .nil]] bx) = some (.ret (B true) none)) :
  stepJ (ev cfg) cfg (.call 47 [.agg [I 4, I a, I op, I n, .dat K]] bx) = some (.ret (B (decide (a >= 0) && decide (a <= 3))) none) := by
 cases c1 : decide (a >= 0) <;> cases c2 : decide (a <= 3) <;> simp (maxSteps := 2000000) only [go_sem, seval, hK, ho, hz, c1, c2]
theorem right_3 (hK : K.oneC = true) (hn : ∀ bx : List Box, ev cfg (.call 64 [.agg [I op, I n, .dat K]] bx) = some (.ret (B v) none)) :
  stepJ (ev cfg) cfg (.call 47 [.agg [I 3, I a, I op, I n, .dat K]] bx) = some (.ret (B (decide (a >= 0) && (decide (a <= 3) && v))) none) := by
 cases c1 : decide (a >= 0) <;> cases c2 : decide (a <= 3) <;> simp (maxSteps := 2000000) only [go_sem, seval, hK, hn, c1, c2]
theorem right_8 (hK : K.oneC = true) (hn : ∀ bx : List Box, ev cfg (.call 64 [.agg [I op, I n, .dat K]] bx) = some (.ret (B v) none)) :
  stepJ (ev cfg) cfg (.call 47 [.agg [I 8, I a, I op, I n, .dat K]] bx) = some (.ret (B (decide (a >= 0) && (decide (a <= 4) && v))) none) := by
 cases c1 : decide (a >= 0) <;> cases c2 : decide (a <= 4) <;> simp (maxSteps := 2000000) only [go_sem, seval, hK, hn, c1, c2]
theorem right_o (hK : K.oneC = true) (h4 : (k == 4) = false) (h3' : (k == 3) = false) (h8 : (k == 8) = false) (hn : ∀ bx : List Box, ev cfg (.call 64 [.agg [I op, I n, .dat K]] bx) = some (.ret (B v) none)) :
  stepJ (ev cfg) cfg (.call 47 [.agg [I k, I a, I op, I n, .dat K]] bx) = some (.ret (B (decide (k >= 1) && (decide (k <= 8) && (decide (a >= 0) && (decide (a <= 0) && v))))) none) := by
 cases c1 : decide (k >= 1) <;> cases c2 : decide (k <= 8) <;> cases c3 : decide (a >= 0) <;> cases c4 : decide (a <= 0) <;> simp (maxSteps := 2000000) only [go_sem, seval, hK, hn, h4, h3', h8, c1, c2, c3, c4]
theorem flows_round0 {g : FuncId} {f t : Int} {e : Bool} (hF : IsS 6 fr F) (hl : l < bx.length) (hc : c.all (cellLt (bx.length + 1)) = true) (hget : fr[i]? = some [dI f, dI t, .lit (.bool e), dI op, dI n, K]) (hlt : i < fr.length) (hmax : fr.length < 9223372036854775808) (hk : K.oneC = true)
  (hcall : ∀ r : List Box, ev cfg (.call g [.agg [I f, I t, B e, I op, I n, .dat K], .ptr l 0] (bx ++ r)) = some (.ret (B v) none)) :
  stepJ (ev cfg) cfg (.loop 59 3 (qs bx (sh59_3 (.clo g [l]) (.dat .nil) (.dat F) (I fr.length) (I i)) [c])) =
   ev cfg (.loop 59 3 (qs bx (sh59_3 (.clo g [l]) ((if v = true then .own true 1 [[dI i]] else .dat .nil)) (.dat F) (I fr.length) (I ((i + 1 : Nat) : Int))) [c])) := by
 obtain ⟨w, h1, h2, h3⟩ := hF
 obtain rfl := isS_w h2 hget
 cases v <;> simp (maxSteps := 2000000) only [go_sem, seval, h1, h3, hk, hl, nat_lt hlt, nat_neg, tnc, hget, hcall, hc, nat_succ hlt hmax]
theorem flows_round1 {g : FuncId} {f t : Int} {e : Bool} (hF : IsS 6 fr F) (hl : l < bx.length) (hc : c.all (cellLt (bx.length + 1)) = true) (hget : fr[i]? = some [dI f, dI t, .lit (.bool e), dI op, dI n, K]) (hlt : i < fr.length) (hmax : fr.length < 9223372036854775808) (hk : K.oneC = true)
  (hks : (rs.length + 1) * 8 <= 140737488355328) (hcall : ∀ r : List Box, ev cfg (.call g [.agg [I f, I t, B e, I op, I n, .dat K], .ptr l 0] (bx ++ r)) = some (.ret (B v) none)) :
  stepJ (ev cfg) cfg (.loop 59 3 (qs bx (sh59_3 (.clo g [l]) (.own true 1 rs) (.dat F) (I fr.length) (I i)) [c])) =
   ev cfg (.loop 59 3 (qs bx (sh59_3 (.clo g [l]) ((.own true 1 (if v = true then rs ++ [[dI i]] else rs))) (.dat F) (I fr.length) (I ((i + 1 : Nat) : Int))) [c])) := by
 obtain ⟨w, h1, h2, h3⟩ := hF
 obtain rfl := isS_w h2 hget
 cases v <;> simp (maxSteps := 2000000) only [go_sem, seval, h1, h3, hk, hl, nat_lt hlt, nat_neg, tnc, hget, hcall, hc, hks, nat_succ hlt hmax]
theorem flows_end {g : FuncId} {X : PV} {m : Nat} (hX : X = mkS 1 rs) (hl : l < bx.length) (hc : c.all (cellLt (bx.length + 1)) = true) (hge : m <= i) :
  stepJ (ev cfg) cfg (.loop 59 3 (qs bx (sh59_3 (.clo g [l]) X (.dat F) (I m) (I i)) [c])) = some (.loop (.exit 0) (qs bx (se59_3 X) [c])) := by
 subst hX
 cases rs <;> simp (maxSteps := 2000000) only [go_sem, seval, mkS, nat_ge hge, hc, hl]
theorem flows_f {g : FuncId} (hN : N.oneC = true) (hF : IsS 6 fr F) (hl : l < bx.length)
  (hloop : ∀ c : Box, c.all (cellLt (bx.length + 1)) = true -> ev cfg (.loop 59 3 (qs bx (sh59_3 (.clo g [l]) (.dat .nil) (.dat F) (I fr.length) (I 0)) [c])) = some (.loop (.exit 0) (qs bx (se59_3 (mkS 1 rs)) [c]))) :
  stepJ (ev cfg) cfg (.call 59 [.agg [.dat N, .dat F], .clo g [l]] bx) = some (.ret (.dat (mkD 1 rs)) none) := by
 obtain ⟨w, h1, h2, h3⟩ := hF
 have hloop' := hloop [.dat N, .dat F] (by simp [cellLt])
 cases rs <;> simp only [mkS] at hloop' <;> simp (maxSteps := 2000000) only [go_sem, seval, mkD, h1, h3, hN, hl, hloop']
theorem outs1_f {f t q : Int} {e : Bool} (hK : K.oneC = true) (hl : l < bx.length) (hb : bx[l]? = some [I q]) : stepJ (ev cfg) cfg (.call 60 [.agg [I f, I t, B e, I op, I n, .dat K], .ptr l 0] bx) = some (.ret (B (f == q)) none) := by
 simp (maxSteps := 2000000) only [go_sem, seval, hK, hl, hb]
theorem ins1_f {f t q : Int} {e : Bool} (hK : K.oneC = true) (hl : l < bx.length) (hb : bx[l]? = some [I q]) : stepJ (ev cfg) cfg (.call 92 [.agg [I f, I t, B e, I op, I n, .dat K], .ptr l 0] bx) = some (.ret (B (t == q)) none) := by
 simp (maxSteps := 2000000) only [go_sem, seval, hK, hl, hb]
theorem outs_f {q : Int} {X : D} (hN : N.oneC = true) (hF : F.oneC = true) (hX : X.oneC = true) (hc : ∀ c : Box, ev cfg (.call 59 [.agg [.dat N, .dat F], .clo 60 [bx.length + 1]] (bx ++ [c, [I q]])) = some (.ret (.dat X) none)) :
  stepJ (ev cfg) cfg (.call 39 [.agg [.dat N, .dat F], I q] bx) = some (.ret (.dat X) none) := by
 cases X <;> simp (maxSteps := 2000000) only [go_sem, seval, hN, hF, hc]
theorem ins_f {q : Int} {X : D} (hN : N.oneC = true) (hF : F.oneC = true) (hX : X.oneC = true) (hc : ∀ c : Box, ev cfg (.call 59 [.agg [.dat N, .dat F], .clo 92 [bx.length + 1]] (bx ++ [c, [I q]])) = some (.ret (.dat X) none)) :
  stepJ (ev cfg) cfg (.call 83 [.agg [.dat N, .dat F], I q] bx) = some (.ret (.dat X) none) := by
 cases X <;> simp (maxSteps := 2000000) only [go_sem, seval, hN, hF, hc]
end
section
variable {bx : List Box} {c : Box} {nr : List (List D)} {N F K : D} {i l : Nat} {k a op n : Int} {rs : List (List D)} {v : Bool}
theorem index_round {g : FuncId} (hN : IsS 5 nr N) (hget : nr[i]? = some [dI k, dI a, dI op, dI n, K]) (hlt : i < nr.length) (hmax : nr.length < 9223372036854775808) (hk : K.oneC = true) (hcall : ∀ bx : List Box, ev cfg (.call g [.agg [I k, I a, I op, I n, .dat K]] bx) = some (.ret (B v) none)) :
  stepJ (ev cfg) cfg (.loop 68 2 (q0 bx (sh68_2 (.dat N) (.clo g []) (I nr.length) (I i)))) =
   if v = true then some (.loop .ret (q0 bx (se68_2 (I i))))
   else ev cfg (.loop 68 2 (q0 bx (sh68_2 (.dat N) (.clo g []) (I nr.length) (I ((i + 1 : Nat) : Int))))) := by
 obtain ⟨w, h1, h2, h3⟩ := hN
 obtain rfl := isS_w h2 hget
 cases v <;> simp (maxSteps := 2000000) only [go_sem, seval, h1, h3, hk, nat_lt hlt, nat_neg, tnc, hget, hcall, nat_succ hlt hmax]
theorem index_end {g : FuncId} {m : Nat} (hge : m <= i) :
  stepJ (ev cfg) cfg (.loop 68 2 (q0 bx (sh68_2 (.dat N) (.clo g []) (I m) (I i)))) = some (.loop (.exit 0) (q0 bx (se68_2 .dead))) := by
 simp (maxSteps := 2000000) only [go_sem, seval, nat_ge hge]
theorem index_f {g : FuncId} {y : Option Int} (hN : IsS 5 nr N) 
  (hloop : ev cfg (.loop 68 2 (q0 bx (sh68_2 (.dat N) (.clo g []) (I nr.length) (I 0)))) = some (match y with
   | some j => .loop .ret (q0 bx (se68_2 (I j)))
   | none => .loop (.exit 0) (q0 bx (se68_2 .dead)))) :
  stepJ (ev cfg) cfg (.call 68 [.dat N, .clo g []] bx) = some (.ret (I (y.getD (-1))) none) := by
 obtain ⟨w, h1, h2, h3⟩ := hN
 cases y <;> simp (maxSteps := 2000000) only [go_sem, seval, h1, h3, hloop]
theorem start1_f (hK : K.oneC = true) : stepJ (ev cfg) cfg (.call 69 [.agg [I k, I a, I op, I n, .dat K]] bx) = some (.ret (B (k == 1)) none) := by
 simp (maxSteps := 2000000) only [go_sem, seval, hK]
theorem end1_f (hK : K.oneC = true) : stepJ (ev cfg) cfg (.call 70 [.agg [I k, I a, I op, I n, .dat K]] bx) = some (.ret (B (k == 2)) none) := by
 simp (maxSteps := 2000000) only [go_sem, seval, hK]
theorem start_f {y : Int} (hN : N.oneC = true) (hF : F.oneC = true) (hc : ∀ bx : List Box, ev cfg (.call 68 [.dat N, .clo 69 []] bx) = some (.ret (I y) none)) :
  stepJ (ev cfg) cfg (.call 52 [.agg [.dat N, .dat F]] bx) = some (.ret (I y) none) := by
 simp (maxSteps := 2000000) only [go_sem, seval, hN, hF, hc]
theorem end_f {y : Int} (hN : N.oneC = true) (hF : F.oneC = true) (hc : ∀ bx : List Box, ev cfg (.call 68 [.dat N, .clo 70 []] bx) = some (.ret (I y) none)) :
  stepJ (ev cfg) cfg (.call 53 [.agg [.dat N, .dat F]] bx) = some (.ret (I y) none) := by
 simp (maxSteps := 2000000) only [go_sem, seval, hN, hF, hc]
theorem leads1_f {q : Int} (hN : IsS 5 nr N) (hl : l < bx.length) (hb : bx[l]? = some [.dat N, .dat F]) : stepJ (ev cfg) cfg (.call 65 [I q, .ptr l 0] bx) = some (.ret (B (decide (q >= 0) && decide (q < (nr.length : Int)))) none) := by
 obtain ⟨w, h1, h2, h3⟩ := hN
 cases c1 : decide (q >= 0) <;> simp (maxSteps := 2000000) only [go_sem, seval, h1, h3, hl, hb, c1]
section
variable {f t : Int} {e v2 z : Bool} {p : Nat} {X : D} {ors : List (List D)} {K2 : D} {op2 n2 : Int}
theorem leads_no1 (hN : N.oneC = true) (hF : F.oneC = true) (hK : K.oneC = true) (h1 : ∀ c : Box, ev cfg (.call 65 [I f, .ptr bx.length 0] (bx ++ [[.dat N, .dat F], c])) = some (.ret (B false) none)) :
  stepJ (ev cfg) cfg (.call 49 [.agg [.dat N, .dat F], .agg [I f, I t, B e, I op, I n, .dat K]] bx) = some (.ret (B false) none) := by
 simp (maxSteps := 2000000) only [go_sem, seval, hN, hF, hK, h1]
theorem leads_no2 (hN : N.oneC = true) (hF : F.oneC = true) (hK : K.oneC = true) (h1 : ∀ c : Box, ev cfg (.call 65 [I f, .ptr bx.length 0] (bx ++ [[.dat N, .dat F], c])) = some (.ret (B true) none))
  (h2 : ∀ c : Box, ev cfg (.call 65 [I t, .ptr bx.length 0] (bx ++ [[.dat N, .dat F], c])) = some (.ret (B v2) none)) (h : v2 = false ∨ (f == t) = true) :
  stepJ (ev cfg) cfg (.call 49 [.agg [.dat N, .dat F], .agg [I f, I t, B e, I op, I n, .dat K]] bx) = some (.ret (B false) none) := by
 cases v2
 ·simp (maxSteps := 2000000) only [go_sem, seval, hN, hF, hK, h1, h2]
 ·have h' : (f == t) = true := by rcases h with h | h; cases h; exact h
  simp (maxSteps := 2000000) only [go_sem, seval, hN, hF, hK, h1, h2, h']
theorem leads_go {zo : Bool} (hN : IsS 5 nr N) (hF : F.oneC = true) (hK : K.oneC = true) (h1 : ∀ c : Box, ev cfg (.call 65 [I p, .ptr bx.length 0] (bx ++ [[.dat N, .dat F], c])) = some (.ret (B true) none))
  (h2 : ∀ c : Box, ev cfg (.call 65 [I t, .ptr bx.length 0] (bx ++ [[.dat N, .dat F], c])) = some (.ret (B true) none)) (h3 : ((p : Int) == t) = false) (hget : nr[p]? = some [dI k, dI a, dI op2, dI n2, K2])
  (hX : IsS 1 ors X) (ho : ∀ bx : List Box, ev cfg (.call 39 [.agg [.dat N, .dat F], I p] bx) = some (.ret (.dat X) none)) (hn : ∀ bx : List Box, ev cfg (.call 64 [.agg [I op, I n, .dat K]] bx) = some (.ret (B z) none))
  (hof : ∀ bx : List Box, ev cfg (.call 63 [.agg [I op, I n, .dat K], I 2] bx) = some (.ret (B zo) none)) :
  stepJ (ev cfg) cfg (.call 49 [.agg [.dat N, .dat F], .agg [I p, I t, B e, I op, I n, .dat K]] bx) =
   some (.ret (B (if ((k != 5) || decide ((ors.length : Int) < 2)) = true then !e && z else if e = true then z else zo)) none) := by
 obtain ⟨w, g1, g2, g3⟩ := hN
 obtain rfl := isS_w g2 hget
 obtain ⟨w', g1', g2', g3'⟩ := hX
 have hlt : p < nr.length := (gsi.1 hget).1
 cases c1 : (k != 5) <;> cases c2 : decide ((ors.length : Int) < 2) <;> cases e <;> simp (maxSteps := 2000000) only [go_sem, seval, g1, g3, g1', g3', hF, hK, h1, h2, h3, hget, ho, hn, hof, c1, c2, nat_neg, tnc, hlt]
end
theorem places_round0 {g : FuncId} {cap : List Nat} {rule : Int} {m : Nat} (hcap : (cap.all fun l => decide (l < bx.length)) = true) (hlt : i < m) (hmax : m < 9223372036854775808)
  (hcall : ev cfg (.call g (I i :: cap.map fun l => .ptr l 0) bx) = some (.ret (B v) none)) :
  stepJ (ev cfg) cfg (.loop 45 3 (q0 bx (sh45_3 (I rule) (.clo g cap) (.dat .nil) (I m) (I i)))) =
   ev cfg (.loop 45 3 (q0 bx (sh45_3 (I rule) (.clo g cap) ((if v = true then .own true 2 [[dI rule, dI i]] else .dat .nil)) (I m) (I ((i + 1 : Nat) : Int))))) := by
 cases v <;> simp (maxSteps := 2000000) only [go_sem, seval, nat_lt hlt, hcall, hcap, nat_succ hlt hmax]
theorem places_round1 {g : FuncId} {cap : List Nat} {rule : Int} {m : Nat} (hcap : (cap.all fun l => decide (l < bx.length)) = true) (hlt : i < m) (hmax : m < 9223372036854775808) (hks : (rs.length + 1) * 16 <= 140737488355328)
  (hcall : ev cfg (.call g (I i :: cap.map fun l => .ptr l 0) bx) = some (.ret (B v) none)) :
  stepJ (ev cfg) cfg (.loop 45 3 (q0 bx (sh45_3 (I rule) (.clo g cap) (.own true 2 rs) (I m) (I i)))) =
   ev cfg (.loop 45 3 (q0 bx (sh45_3 (I rule) (.clo g cap) ((.own true 2 (if v = true then rs ++ [[dI rule, dI i]] else rs))) (I m) (I ((i + 1 : Nat) : Int))))) := by
 cases v <;> simp (maxSteps := 2000000) only [go_sem, seval, nat_lt hlt, hcall, hcap, hks, nat_succ hlt hmax]
theorem places_end {g : FuncId} {cap : List Nat} {rule : Int} {m : Nat} (hcap : (cap.all fun l => decide (l < bx.length)) = true) (hge : m <= i) :
  stepJ (ev cfg) cfg (.loop 45 3 (q0 bx (sh45_3 (I rule) (.clo g cap) (mkS 2 rs) (I m) (I i)))) = some (.loop (.exit 0) (q0 bx (se45_3 (mkS 2 rs)))) := by
 cases rs <;> simp (maxSteps := 2000000) only [go_sem, seval, mkS, nat_ge hge, hcap]
theorem places_f {g : FuncId} {cap : List Nat} {rule : Int} {m : Nat} (hcap : (cap.all fun l => decide (l < bx.length)) = true)
  (hloop : ev cfg (.loop 45 3 (q0 bx (sh45_3 (I rule) (.clo g cap) (.dat .nil) (I m) (I 0)))) = some (.loop (.exit 0) (q0 bx (se45_3 (mkS 2 rs))))) :
  stepJ (ev cfg) cfg (.call 45 [I rule, I m, .clo g cap] bx) = some (.ret (mkS 2 rs) none) := by
 cases rs <;> simp only [mkS] at hloop <;> simp (maxSteps := 2000000) only [go_sem, seval, mkS, hcap, hloop]
end
end Go.Proofs.YtifckjhggamefaaDoor
