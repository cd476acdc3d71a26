/- What Text answers, the reference's, too. No condition. -/
import Derived.Test.YtgppmcpbphgnnaaDoorT6
import Derived.Test.YtgppmcpbphgnnaaDoorT8
import Derived.Test.YtgppmcpbphgnnaaDoorT9
import Derived.Test.YtgppmcpbphgnnaaDoorT10
set_option linter.unusedSimpArgs false
set_option linter.unusedVariables false
set_option linter.unusedSectionVars false
namespace Go.Proofs.YtgppmcpbphgnnaaDoor
open Go Go.Vx
set_option maxRecDepth 10000

def chr (d : Nat) : ByteArray := bsT [UInt8.ofNat (48 + d)]
def digL (n : Nat) : List UInt8 := if n < 10 then [UInt8.ofNat (48 + n)] else digL (n / 10) ++ [UInt8.ofNat (48 + n % 10)]

theorem digL_size : ∀ (k n : Nat), n < 10 ^ (k + 1) → (digL n).length ≤ k + 1
  | 0, n, h => by unfold digL; rw [if_pos (by simpa using h)]; exact Nat.le_refl 1
  | k + 1, n, h => by
    unfold digL
    split
    · simp
    · rw [List.length_append]
      have := digL_size k (n / 10) (by rw [Nat.pow_succ] at h; omega)
      simp only [List.length_singleton]
      omega

theorem enc_chr : ∀ d : Nat, d < 10 → Utf8.encode (IntKind.wrap .i32 (IntKind.wrap .i64 (48 + (d : Int)))) = bsT [UInt8.ofNat (48 + d)] := by decide
theorem ext_chr : ∀ d : Nat, d < 10 → (⟨#[48, 49, 50, 51, 52, 53, 54, 55, 56, 57]⟩ : ByteArray).extract d (d + 1) = bsT [UInt8.ofNat (48 + d)] := by decide
theorem nat_lt0 (n : Nat) : ((n : Int) < 0) = False := by simp

theorem digits_ev (n : Nat) (h : n < 9223372036854775808) (bx : List Box) : ev cfg (.call 68 [I n] bx) = some (.ret (S (bsT (digL n))) none) := by
  induction n using Nat.strongRecOn generalizing bx with
  | ind n ih =>
    by_cases h1 : n < 10
    · rw [digL, if_pos h1]
      exact ev_step cfg (f68_one (decide_eq_true (by omega)) (enc_chr n h1))
    · have hz := digL_size 18 (n / 10) (by omega)
      rw [digL, if_neg h1, ← bsT_app]
      exact ev_step cfg (f68_more (decide_eq_false (by omega)) (enc_chr (n % 10) (Nat.mod_lt _ (by omega))) (wrap_lo (by show -9223372036854775808 ≤ ((n / 10 : Nat) : Int); omega) (by show ((n / 10 : Nat) : Int) ≤ _; omega)) (by rw [bsT_size, bsT_size, List.length_singleton]; omega) fun bx => ih (n / 10) (by omega) (by omega) bx)

theorem rdig_loop (n : Nat) : ∀ (s : List UInt8) (bx : List Box), n < 9223372036854775808 → s.length + (digL n).length ≤ 1000 → ∃ (m : Nat) (t : List UInt8), m < 10 ∧ [UInt8.ofNat (48 + m)] ++ t = digL n ++ s ∧
    ev cfg (.loop 70 2 ⟨(I n :: .dead :: .dead :: S (bsT s) :: .dead :: .dead :: .dead :: .dead :: .dead :: .dead :: .dead :: .dead :: .dead :: .dead :: .dead :: .dead :: .dead :: .dead :: .dead :: .dead :: .dead :: .dead :: []), bx, bx.length, none, false⟩) = some (.loop (.exit 0) ⟨(I m :: .dead :: .dead :: S (bsT t) :: .dead :: .dead :: .dead :: .dead :: .dead :: .dead :: .dead :: .dead :: .dead :: .dead :: .dead :: .dead :: .dead :: .dead :: .dead :: .dead :: .dead :: .dead :: []), bx, bx.length, none, false⟩) := by
  induction n using Nat.strongRecOn with
  | ind n ih =>
    intro s bx h hs
    by_cases h1 : n < 10
    · refine ⟨n, s, h1, ?_, ev_step cfg (e70 (decide_eq_false (by omega)))⟩
      rw [digL, if_pos h1]
    · have hlt : n % 10 < 10 := Nat.mod_lt _ (by omega)
      have hd : digL n = digL (n / 10) ++ [UInt8.ofNat (48 + n % 10)] := by rw [digL, if_neg h1]
      have hz : (digL n).length = (digL (n / 10)).length + 1 := by rw [hd, List.length_append, List.length_singleton]
      have hr :=
        r70 (bx := bx) (n := n) (s := bsT s) (t := bsT [UInt8.ofNat (48 + n % 10)]) (decide_eq_true (by omega)) (nat_lt0 (n % 10)) (wrap_lo (by show -9223372036854775808 ≤ ((n % 10 : Nat) : Int) + 1; omega) (by show ((n % 10 : Nat) : Int) + 1 ≤ _; omega))
          (wrap_lo (by show -9223372036854775808 ≤ ((n / 10 : Nat) : Int); omega) (by show ((n / 10 : Nat) : Int) ≤ _; omega))
          (eq_true (by show ((n % 10 : Nat) : Int) ≤ ((n % 10 : Nat) : Int) + 1; omega)) (eq_true (by show ((n % 10 : Nat) : Int) + 1 ≤ ((10 : Nat) : Int); omega)) (ext_chr (n % 10) hlt) (by rw [bsT_size, bsT_size, List.length_singleton]; omega)
      rw [bsT_app] at hr
      obtain ⟨m, t, q1, q2, q3⟩ := ih (n / 10) (by omega) ([UInt8.ofNat (48 + n % 10)] ++ s) bx (by omega) (by rw [List.length_append, List.length_singleton]; omega)
      refine ⟨m, t, q1, ?_, ev_step cfg (hr.trans q3)⟩
      rw [q2, hd, List.append_assoc]

theorem rdig_ev (n : Nat) (h : n < 9223372036854775808) (bx : List Box) : ev cfg (.call 70 [I n] bx) = some (.ret (S (bsT (digL n))) none) := by
  have hz := digL_size 18 n (by omega)
  obtain ⟨m, t, q1, q2, q3⟩ := rdig_loop n [] bx h (by simp only [List.length_nil]; omega)
  rw [List.append_nil] at q2
  have e2 : ([UInt8.ofNat (48 + m)] ++ t).length ≤ 19 := by rw [q2]; exact hz
  rw [← q2, ← bsT_app]
  rw [List.length_append] at e2
  exact ev_step cfg (f70 q3 (nat_lt0 m) (wrap_lo (by omega) (by omega)) (eq_true (by omega)) (eq_true (by omega)) (ext_chr m q1) (by rw [bsT_size, bsT_size]; omega))

/-! ### a term's text -/
def textT : Trm → List UInt8
  | .mk op n ks => if op = 1 then digL n.toNat else if op = 2 then 36 :: digL n.toNat else (40 :: wordL op) ++ go ks ++ [41]
where
  go : List Trm → List UInt8
  | [] => []
  | b :: bs => (32 :: textT b) ++ go bs

theorem wordL_len (op : Int) : (wordL op).length ≤ 3 := by
  unfold wordL
  repeat' split
  all_goals decide

theorem shap_num {op n : Int} {ks : List Trm} (h : shapT (.mk op n ks) = true) : 0 ≤ n ∧ n ≤ 1099511627776 := by
  rw [shapT, Bool.and_eq_true] at h
  have h := h.1
  unfold nodeOk at h
  split at h
  · simp at h; omega
  · split at h
    · simp at h; omega
    · simp at h; omega

theorem textT_len : ∀ (b : Trm), shapT b = true → ((textT b).length : Int) ≤ 15 * sizeT b - 1
  | .mk op n ks, h => by
    have hn := shap_num h
    have hd := digL_size 12 n.toNat (by omega)
    rw [shapT, Bool.and_eq_true] at h
    rw [textT, sizeT]
    have hg := go ks h.2
    have hw := wordL_len op
    have h0 := sizeT_pos.go ks
    split
    · omega
    · split
      · rw [List.length_cons]; omega
      · rw [List.length_append, List.length_append, List.length_cons, List.length_singleton]; omega
where
  go : ∀ (bs : List Trm), shapT.go bs = true → ((textT.go bs).length : Int) ≤ 15 * sizeT.go bs
  | [], _ => by rw [textT.go, sizeT.go]; simp
  | b :: bs, h => by
    rw [shapT.go, Bool.and_eq_true] at h
    rw [textT.go, sizeT.go, List.length_append, List.length_cons]
    have h1 := textT_len b h.1
    have h2 := go bs h.2
    have h3 := sizeT_pos b
    omega

theorem c36 (l : List UInt8) : (⟨#[36]⟩ : ByteArray) ++ bsT l = bsT (36 :: l) := bsT_app [36] l
theorem c40 (l : List UInt8) : (⟨#[40]⟩ : ByteArray) ++ bsT l = bsT (40 :: l) := bsT_app [40] l
theorem c32 (l : List UInt8) : bsT l ++ (⟨#[32]⟩ : ByteArray) = bsT (l ++ [32]) := bsT_app l [32]
theorem c41 (l : List UInt8) : bsT l ++ (⟨#[41]⟩ : ByteArray) = bsT (l ++ [41]) := bsT_app l [41]
theorem z1 (x : UInt8) : (⟨#[x]⟩ : ByteArray).size = 1 := rfl

/-- the reference's text -/
theorem plain_ev : ∀ (b : Trm) {op n : Int} {K : D}, IsT b op n K → shapT b = true → sizeT b ≤ 1000000 → ∀ bx : List Box, ev cfg (.call 51 [.agg [I op, I n, .dat K]] bx) = some (.ret (S (bsT (textT b))) none)
  | .mk _ _ ks, op, n, K, h, hs, hz, bx => by
    rw [IsT] at h
    obtain ⟨rfl, rfl, _, _, rows, hK, hks, hmax⟩ := h
    have hn := shap_num hs
    have hlen := textT_len _ hs
    have hdg : ∀ bx : List Box, ev cfg (.call 70 [I n] bx) = some (.ret (S (bsT (digL n.toNat))) none) := fun bx => by
      have := rdig_ev n.toNat (by omega) bx
      rwa [Int.toNat_of_nonneg hn.1] at this
    have hd := digL_size 12 n.toNat (by omega)
    rw [shapT, Bool.and_eq_true] at hs
    by_cases e1 : op = 1
    · subst e1
      rw [textT, if_pos rfl]
      exact ev_step cfg (f51_1 hK hdg)
    · by_cases e2 : op = 2
      · subst e2
        rw [textT, if_neg (by decide), if_pos rfl, ← c36]
        exact ev_step cfg (f51_2 hK hdg (by rw [z1, bsT_size]; omega))
      · obtain ⟨hok, _, _⟩ := node_op hs.1 e1 e2
        have hw := wordL_len op
        rw [textT, if_neg e1, if_neg e2] at hlen ⊢
        rw [sizeT] at hz hlen
        have hg := textT_len.go ks hs.2
        have h0 := sizeT_pos.go ks
        rw [← c41]
        refine ev_step cfg (f51_op hK (by simpa using e1) (by simpa using e2) (fun bx => ev_step cfg (f71 hok)) (by rw [z1]; show 1 + (bsT (wordL op)).size ≤ _; rw [bsT_size]; omega) (by rw [z1, bsT_size]; rw [List.length_append, List.length_cons]; omega) fun c hc => ?_)
        have := loop ks (s := 40 :: wordL op) (i := 0) (bx := bx) (c := c) hK rfl hks (by rw [isTs_len hks]; exact hmax) hs.2 (by omega) (by rw [List.length_cons]; omega) hc
        rw [← c40] at this
        exact this
where
  loop : ∀ (bs : List Trm) {rows rs : List (List D)} {K : D} {s : List UInt8} {i : Nat} {bx : List Box} {c : Box}, IsS 3 rows K → rows.drop i = rs → IsT.IsTs bs rs → rows.length < 9223372036854775808 → shapT.go bs = true → sizeT.go bs ≤ 1000000 → (s.length : Int) + 21 * sizeT.go bs ≤ 100000000 → c.all (cellLt (bx.length + 1)) = true →
    ev cfg (.loop 51 7 ⟨(.dead :: .dead :: .dead :: S (bsT s) :: .dead :: .dead :: .dead :: .dead :: .dead :: .dead :: .dead :: .dead :: .dead :: .dead :: .dead :: .dead :: .dead :: .dead :: .dead :: .dead :: .dead :: .dead :: .dead :: .dead :: .dat K :: I rows.length :: I i :: .dead :: .dead :: .dead :: .dead :: .dead :: .dead :: .dead :: .dead :: .dead :: .dead :: .dead :: []), bx ++ [c], bx.length, none, false⟩) = some (.loop (.exit 0) ⟨(.dead :: .dead :: .dead :: S (bsT (s ++ textT.go bs)) :: .dead :: .dead :: .dead :: .dead :: .dead :: .dead :: .dead :: .dead :: .dead :: .dead :: .dead :: .dead :: .dead :: .dead :: .dead :: .dead :: .dead :: .dead :: .dead :: .dead :: .dead :: .dead :: .dead :: .dead :: .dead :: .dead :: .dead :: .dead :: .dead :: .dead :: .dead :: .dead :: .dead :: .dead :: []), bx ++ [c], bx.length, none, false⟩)
  | [], rows, rs, K, s, i, bx, c, hK, hr, hbs, hmax, hsh, hz, hs, hc => by
    rw [IsT.IsTs] at hbs
    subst hbs
    rw [textT.go, List.append_nil]
    exact ev_step cfg (e51 hc (drop_nil hr))
  | b :: bs, rows, rs, K, s, i, bx, c, hK, hr, hbs, hmax, hsh, hz, hs, hc => by
    rw [IsT.IsTs] at hbs
    obtain ⟨op, n, K', rest, rfl, hB, hrest⟩ := hbs
    obtain ⟨hget, hr', hlt⟩ := drop_cons hr
    rw [shapT.go, Bool.and_eq_true] at hsh
    rw [sizeT.go] at hz hs
    have p1 := sizeT_pos b
    have p2 := sizeT_pos.go bs
    have p3 := textT_len b hsh.1
    have h1 := r51 (s := bsT s) (t := bsT (textT b)) hK hc hget hlt hmax (isT_one hB) (plain_ev b hB hsh.1 (by omega)) (by rw [bsT_size, z1]; omega) (by rw [c32, bsT_size, bsT_size, List.length_append, List.length_singleton]; omega)
    rw [c32, bsT_app] at h1
    have h2 := loop bs (i := i + 1) (s := s ++ [32] ++ textT b) (bx := bx) (c := c) hK hr' hrest hmax hsh.2 (by omega) (by rw [List.length_append, List.length_append, List.length_singleton]; omega) hc
    rw [textT.go]
    have e : s ++ [32] ++ textT b ++ textT.go bs = s ++ (32 :: textT b ++ textT.go bs) := by simp
    rw [e] at h2
    exact ev_step cfg (h1.trans h2)

/-- what both Texts answer -/
def outT (t : Trm) : ByteArray × Int := if wrongT t = 0 then (if decide (((textT t).length : Int) > 20000) = true then (⟨#[]⟩, 5) else (bsT (textT t), 0)) else (⟨#[]⟩, wrongT t)

theorem rtext_ev (b : Trm) {op n : Int} {K : D} (h : IsT b op n K) (hz : sizeT b ≤ 1000000) (bx : List Box) : ev cfg (.call 24 [.agg [I op, I n, .dat K]] bx) = some (.ret (.tup [S (outT b).1, I (outT b).2]) none) := by
  obtain ⟨r, hK⟩ := isT_K h
  unfold outT
  by_cases hw : wrongT b = 0
  · rw [if_pos hw]
    have hw' := rwrong_ev b h hz
    rw [hw] at hw'
    rw [ev_step cfg (f24_ok hK hw' (plain_ev b h (wrongT_zero hw).2 hz)), bsT_size]
    split <;> rfl
  · rw [if_neg hw]
    exact ev_step cfg (f24_bad hK (by simpa using hw) (rwrong_ev b h hz))

/-! ### the Builder -/
def bld : Option (List UInt8) → Box
  | none => [.tnil 85, .dat .nil]
  | some b => [.home, .own true 0 (strRows (bsT b))]
def cat : Option (List UInt8) → List UInt8 → List UInt8
  | none, s => s
  | some b, s => b ++ s

theorem ws_ev (o : Option (List UInt8)) {s : List UInt8} {l : Nat} {bx : List Box} (hb : bx[l]? = some (bld o)) (hne : s ≠ []) (hs : (cat o s).length ≤ 140737488355328) :
    ev cfg (.call 67 [.ptr l 0, S (bsT s)] bx) = some (.ret (.tup [I (bsT s).size, .dat (.lit .nilIface)]) (some ⟨bx.set l (bld (some (cat o s))), l, false⟩)) := by
  have hl : l < bx.length := (List.getElem?_eq_some_iff.1 hb).1
  cases o with
  | none =>
    cases hr : strRows (bsT s) with
    | nil =>
      have := sr_len (bsT s)
      rw [hr, bsT_size] at this
      exact absurd (List.eq_nil_of_length_eq_zero this.symm) hne
    | cons r rs => exact ev_step cfg (f67_new hl hb hr (by rw [bsT_size]; simpa [cat] using hs) (ev_step cfg (f85_new hl hb)))
  | some b =>
    have := f67_old (s := bsT s) (b := bsT b) hl hb (by rw [bsT_size, bsT_size]; simpa [cat, List.length_append] using hs) (ev_step cfg (f85_old hl hb))
    rw [bsT_app] at this
    exact ev_step cfg this

theorem wb_ev {b : List UInt8} {n : Nat} (hn : n < 256) {l : Nat} {bx : List Box} (hb : bx[l]? = some (bld (some b))) (hs : b.length + 1 ≤ 140737488355328) :
    ev cfg (.call 69 [.ptr l 0, .dat (.lit (.int .u8 (n : Int)))] bx) = some (.ret (.dat (.lit .nilIface)) (some ⟨bx.set l (bld (some (b ++ [UInt8.ofNat n]))), l, false⟩)) := by
  have hl : l < bx.length := (List.getElem?_eq_some_iff.1 hb).1
  have := f69_old (b := bsT b) (strRows_byte n hn) hl hb (by rw [bsT_size, z1]; omega) (ev_step cfg (f85_old hl hb))
  have e : bsT b ++ ⟨#[UInt8.ofNat n]⟩ = bsT (b ++ [UInt8.ofNat n]) := bsT_app b [UInt8.ofNat n]
  rw [e] at this
  exact ev_step cfg this

theorem cat_assoc (o : Option (List UInt8)) (s t : List UInt8) : cat (some (cat o s)) t = cat o (s ++ t) := by
  cases o <;> simp [cat]
theorem cat_len (o : Option (List UInt8)) (s : List UInt8) : (cat o s).length = (cat o []).length + s.length := by
  cases o <;> simp [cat]

theorem written_ev : ∀ (b : Trm) {op n : Int} {K : D} {o : Option (List UInt8)} {l : Nat} {bx : List Box}, IsT b op n K → shapT b = true → sizeT b ≤ 1000000 → (cat o []).length + (textT b).length ≤ 140737488355328 → bx[l]? = some (bld o) →
    ev cfg (.call 48 [.ptr l 0, .agg [I op, I n, .dat K]] bx) = some (.ret (.tup []) (some ⟨bx.set l (bld (some (cat o (textT b)))), l, false⟩))
  | .mk _ _ ks, op, n, K, o, l, bx, h, hs, hz, hol, hb => by
    rw [IsT] at h
    obtain ⟨rfl, rfl, _, _, rows, hK, hks, hmax⟩ := h
    have hl : l < bx.length := (List.getElem?_eq_some_iff.1 hb).1
    have hn := shap_num hs
    have hlen := textT_len _ hs
    have hdg : ∀ bx : List Box, ev cfg (.call 68 [I n] bx) = some (.ret (S (bsT (digL n.toNat))) none) := fun bx => by
      have := digits_ev n.toNat (by omega) bx
      rwa [Int.toNat_of_nonneg hn.1] at this
    have hd := digL_size 12 n.toNat (by omega)
    have hdn : digL n.toNat ≠ [] := by unfold digL; split <;> simp
    have old : ∀ c : Box, (bx ++ [c])[l]? = some (bld o) := fun c => by rw [get_old hl]; exact hb
    rw [shapT, Bool.and_eq_true] at hs
    by_cases e1 : op = 1
    · subst e1
      rw [textT, if_pos rfl] at hlen hol ⊢
      rw [sizeT] at hz hlen
      have h0 := sizeT_pos.go ks
      refine ev_step cfg (f48_1 hK hl hdg fun c => ?_)
      have := ws_ev o (old c) hdn (by rw [cat_len]; omega)
      rwa [set_old hl] at this
    · by_cases e2 : op = 2
      · subst e2
        rw [textT, if_neg (by decide), if_pos rfl] at hlen hol ⊢
        rw [List.length_cons] at hol hlen
        rw [sizeT] at hz hlen
        have h0 := sizeT_pos.go ks
        refine ev_step cfg (f48_2 hK hl hdg (by rw [z1, bsT_size]; omega) fun c => ?_)
        rw [c36]
        have := ws_ev o (s := 36 :: digL n.toNat) (old c) (by simp) (by rw [cat_len, List.length_cons]; omega)
        rwa [set_old hl] at this
      · obtain ⟨hok, _, _⟩ := node_op hs.1 e1 e2
        have hw := wordL_len op
        rw [textT, if_neg e1, if_neg e2] at hlen hol ⊢
        rw [sizeT] at hz hlen
        simp only [List.length_append, List.length_cons, List.length_singleton] at hol hlen
        have hg := textT_len.go ks hs.2
        have h0 := sizeT_pos.go ks
        have W := wd hok
        have hX : ∀ c : Box, (bx.set l (bld (some (cat o (40 :: wordL op ++ textT.go ks)))) ++ [c])[l]? = some (bld (some (cat o (40 :: wordL op ++ textT.go ks)))) := fun c => by rw [get_old (by simpa using hl)]; simp [hl]
        refine ev_step cfg (f48_op (X := bld (some (cat o (40 :: wordL op)))) (Y := bld (some (cat o (40 :: wordL op ++ textT.go ks)))) hK hl (by simpa using e1) (by simpa using e2) gw W.neg W.lt W.r0 (by rw [z1]; show 1 + (bsT (wordL op)).size ≤ _; rw [bsT_size]; omega) (fun c => ?_) (fun c hc => ?_) fun c => ?_)
        · have := ws_ev o (s := 40 :: wordL op) (old c) (by simp) (by rw [cat_len, List.length_cons]; omega)
          rw [set_old hl] at this
          have e : (⟨#[40]⟩ : ByteArray) ++ bsL (wordL op) = bsT (40 :: wordL op) := c40 _
          rw [e]
          exact this
        · have := loop ks (s := cat o (40 :: wordL op)) (l := l) (i := 0) (bx := bx.set l (bld (some (cat o (40 :: wordL op))))) (c := c) hK rfl hks (by rw [isTs_len hks]; exact hmax) hs.2 (by omega) (by rw [cat_len, List.length_cons]; omega) (by simp [hl]) (by simpa using hc)
          simp only [List.length_set, List.set_set] at this
          have e : cat o (40 :: wordL op) ++ textT.go ks = cat o (40 :: wordL op ++ textT.go ks) := by cases o <;> simp [cat]
          rw [e] at this
          exact this
        · have := wb_ev (b := cat o (40 :: wordL op ++ textT.go ks)) (n := 41) (by omega) (hX c) (by rw [cat_len, List.length_append, List.length_cons]; omega)
          rw [set_old (by simpa using hl), List.set_set] at this
          have e : cat o (40 :: wordL op ++ textT.go ks) ++ [UInt8.ofNat 41] = cat o (40 :: wordL op ++ textT.go ks ++ [41]) := by cases o <;> simp [cat]
          rw [e] at this
          exact this
where
  loop : ∀ (bs : List Trm) {rows rs : List (List D)} {K : D} {s : List UInt8} {l i : Nat} {bx : List Box} {c : Box}, IsS 3 rows K → rows.drop i = rs → IsT.IsTs bs rs → rows.length < 9223372036854775808 → shapT.go bs = true → sizeT.go bs ≤ 1000000 → s.length + (textT.go bs).length < 140737488355328 → bx[l]? = some (bld (some s)) → c.all (cellLt (bx.length + 1)) = true →
    ev cfg (.loop 48 4 ⟨(.ptr l 0 :: .dead :: .dead :: .dead :: .dead :: .dead :: .dead :: .dead :: .dead :: .dead :: .dead :: .dead :: .dead :: .dead :: .dead :: .dead :: .dead :: .dat K :: I rows.length :: I i :: .dead :: .dead :: .dead :: .dead :: .dead :: .dead :: .dead :: .dead :: .dead :: .dead :: .dead :: .dead :: .dead :: .dead :: .dead :: .dead :: .dead :: .dead :: .dead :: .dead :: .dead :: .dead :: .dead :: .dead :: .dead :: .dead :: []), bx ++ [c], bx.length, some l, false⟩) = some (.loop (.exit 1) ⟨(.ptr l 0 :: .dead :: .dead :: .dead :: .dead :: .dead :: .dead :: .dead :: .dead :: .dead :: .dead :: .dead :: .dead :: .dead :: .dead :: .dead :: .dead :: .dead :: .dead :: .dead :: .dead :: .dead :: .dead :: .dead :: .dead :: .dead :: .dead :: .dead :: .dead :: .dead :: .dead :: .dead :: .dead :: .dead :: .dead :: .dead :: .dead :: .dead :: .dead :: .dead :: .dead :: .dead :: .dead :: .dead :: .dead :: .dead :: []), bx.set l (bld (some (s ++ textT.go bs))) ++ [c], bx.length, some l, false⟩)
  | [], rows, rs, K, s, l, i, bx, c, hK, hr, hbs, hmax, hsh, hz, hs, hb, hc => by
    have hl : l < bx.length := (List.getElem?_eq_some_iff.1 hb).1
    rw [IsT.IsTs] at hbs
    subst hbs
    rw [textT.go, List.append_nil, set_same hb]
    exact ev_step cfg (e48 hl hc (drop_nil hr))
  | b :: bs, rows, rs, K, s, l, i, bx, c, hK, hr, hbs, hmax, hsh, hz, hs, hb, hc => by
    have hl : l < bx.length := (List.getElem?_eq_some_iff.1 hb).1
    rw [IsT.IsTs] at hbs
    obtain ⟨op, n, K', rest, rfl, hB, hrest⟩ := hbs
    obtain ⟨hget, hr', hlt⟩ := drop_cons hr
    rw [shapT.go, Bool.and_eq_true] at hsh
    rw [sizeT.go] at hz
    rw [textT.go, List.length_append, List.length_cons] at hs
    have p1 := sizeT_pos b
    have p2 := sizeT_pos.go bs
    have p3 := textT_len b hsh.1
    have h1 := r48 (X := bld (some (s ++ [32]))) (Y := bld (some (s ++ [32] ++ textT b))) hK hl hc hget hlt hmax (isT_one hB)
      (fun r => by
        have := wb_ev (b := s) (n := 32) (l := l) (bx := bx ++ [c, r]) (by omega) (by rw [get_old hl]; exact hb) (by omega)
        rw [set_old hl] at this
        exact this)
      (fun r => by
        have := written_ev b (o := some (s ++ [32])) (l := l) (bx := bx.set l (bld (some (s ++ [32]))) ++ [c, r]) hB hsh.1 (by omega) (by simp only [cat, List.length_append, List.length_singleton, List.length_nil]; omega) (by rw [get_old (by simpa using hl)]; simp [hl])
        rw [set_old (by simpa using hl), List.set_set] at this
        exact this)
    have h2 := loop bs (i := i + 1) (s := s ++ [32] ++ textT b) (l := l) (bx := bx.set l (bld (some (s ++ [32] ++ textT b)))) (c := c) hK hr' hrest hmax hsh.2 (by omega) (by rw [List.length_append, List.length_append, List.length_singleton]; omega) (by simp [hl]) (by simpa using hc)
    simp only [List.length_set, List.set_set] at h2
    rw [textT.go]
    have e : s ++ [32] ++ textT b ++ textT.go bs = s ++ (32 :: textT b ++ textT.go bs) := by simp
    rw [e] at h2
    exact ev_step cfg (h1.trans h2)

theorem textT_ne (b : Trm) : textT b ≠ [] := by
  cases b with
  | mk op n ks =>
    rw [textT]
    split
    · unfold digL; split <;> simp
    · split <;> simp

theorem text_ev (b : Trm) {op n : Int} {K : D} (h : IsT b op n K) (hz : sizeT b ≤ 1000000) (bx : List Box) : ev cfg (.call 23 [.agg [I op, I n, .dat K]] bx) = some (.ret (.tup [S (outT b).1, I (outT b).2]) none) := by
  obtain ⟨r, hK⟩ := isT_K h
  unfold outT
  by_cases hw : wrongT b = 0
  · rw [if_pos hw]
    have hw' := wrong_ev b h hz
    rw [hw] at hw'
    have hr := f23_ok (bx := bx) (t := bsT (textT b)) hK hw' (fun c => by
        have := written_ev b (o := none) (l := bx.length + 1) (bx := bx ++ [c, [.tnil 85, .dat .nil]]) h (wrongT_zero hw).2 hz (by have := textT_len b (wrongT_zero hw).2; simp only [cat, List.length_nil]; omega) (by simp [bld])
        rw [this]
        simp [cat, bld, app_set])
      (fun c => ev_step cfg (f49_own (by simp)))
      (fun c => by
        have := f50_own (b := bsT (textT b)) (l := bx.length + 1) (bx := bx ++ [c, [.home, .own true 0 (strRows (bsT (textT b)))]]) (by simp) (by simp) (hr_sr (by rw [bsT_size]; intro e; exact textT_ne b (List.eq_nil_of_length_eq_zero e)))
        rw [ev_step cfg this]
        simp [app_set])
    rw [ev_step cfg hr, bsT_size]
    split <;> rfl
  · rw [if_neg hw]
    exact ev_step cfg (f23_bad hK (by simpa using hw) (wrong_ev b h hz))

end Go.Proofs.YtgppmcpbphgnnaaDoor
