/- What the parser's read answers. No condition. -/
import Derived.Test.YtgppmcpbphgnnaaDoorT15
import Derived.Test.YtgppmcpbphgnnaaDoorT16
import Derived.Test.YtgppmcpbphgnnaaDoorT22
set_option linter.unusedSimpArgs false
set_option linter.unusedVariables false
set_option linter.unusedSectionVars false
namespace Go.Proofs.YtgppmcpbphgnnaaDoor
open Go Go.Vx
set_option maxRecDepth 10000

/-! ### the table, searched -/
theorem row_w (i : Nat) (h : i < 15) : ∃ a b d : Int, (chunks 4 15 wordsD)[i]? = some [.lit (.string (bsT (tx i))), dI a, dI b, dI d] := by
  have : i = 0 ∨ i = 1 ∨ i = 2 ∨ i = 3 ∨ i = 4 ∨ i = 5 ∨ i = 6 ∨ i = 7 ∨ i = 8 ∨ i = 9 ∨ i = 10 ∨ i = 11 ∨ i = 12 ∨ i = 13 ∨ i = 14 := by omega
  rcases this with rfl | rfl | rfl | rfl | rfl | rfl | rfl | rfl | rfl | rfl | rfl | rfl | rfl | rfl | rfl <;> exact ⟨_, _, _, rfl⟩
theorem rows_len : (chunks 4 15 wordsD).length = 15 := rfl

theorem search_loop {w : List UInt8} {lb : Nat} {bx : List Box} (hb : bx[lb]? = some [S (bsT w)]) (hl : lb < bx.length) : ∀ (f i : Nat), i + f = 15 →
    ev cfg (.loop 74 2 ⟨(.dat (.sl 4 (chunks 4 15 wordsD)) :: .clo 75 [lb] :: .dead :: .dead :: .dead :: .dead :: .dead :: I ((chunks 4 15 wordsD).length) :: I i :: .dead :: .dead :: .dead :: .dead :: .dead :: .dead :: .dead :: .dead :: .dead :: .dead :: []), bx, bx.length, none, false⟩) =
      some (match findW w f i with | some j => .loop .ret ⟨(.dead :: .dead :: .dead :: .dead :: I j :: .dead :: .dead :: .dead :: .dead :: .dead :: .dead :: .dead :: .dead :: .dead :: .dead :: .dead :: .dead :: .dead :: .dead :: []), bx, bx.length, none, false⟩ | none => .loop (.exit 0) ⟨(.dead :: .dead :: .dead :: .dead :: .dead :: .dead :: .dead :: .dead :: .dead :: .dead :: .dead :: .dead :: .dead :: .dead :: .dead :: .dead :: .dead :: .dead :: .dead :: []), bx, bx.length, none, false⟩)
  | 0, i, h => ev_step cfg (e74 hl (by rw [rows_len]; omega))
  | f + 1, i, h => by
    obtain ⟨a, b, d, hget⟩ := row_w i (by omega)
    have h75 := ev_step cfg (f75 (txt := tx i) (w := w) (a := a) (b := b) (d := d) (bx := bx) hb hl)
    have hst := r74 (bx := bx) (isS_sl 4 (chunks 4 15 wordsD)) hl hget (by rw [rows_len]; omega) (by rw [rows_len]; omega) h75
    rw [findW]
    cases hc : ((tx i == w) && !(w == [])) with
    | true =>
      rw [hc, if_pos rfl] at hst
      exact ev_step cfg hst
    | false =>
      rw [hc, if_neg (by decide)] at hst
      rw [if_neg (by decide)]
      exact ev_step cfg (hst.trans (search_loop hb hl f (i + 1) (by omega)))
theorem search_ev {w : List UInt8} {lb : Nat} {bx : List Box} (hb : bx[lb]? = some [S (bsT w)]) (hl : lb < bx.length) : ev cfg (.call 74 [.dat (.sl 4 (chunks 4 15 wordsD)), .clo 75 [lb]] bx) = some (.ret (I (idxJ (findW w 15 0))) none) :=
  ev_step cfg (f74 (isS_sl 4 (chunks 4 15 wordsD)) (search_loop hb hl 15 0 rfl))

/-! ### read -/
theorem isTs_snoc : ∀ {ts : List Trm} {rows : List (List D)} {b : Trm} {o n : Int} {K : D}, IsT.IsTs ts rows → IsT b o n K → IsT.IsTs (ts ++ [b]) (rows ++ [[dI o, dI n, K]])
  | [], rows, b, o, n, K, h, hb => by
    rw [IsT.IsTs] at h
    subst h
    rw [List.nil_append, IsT.IsTs]
    exact ⟨o, n, K, [], rfl, hb, by rw [IsT.IsTs]⟩
  | t :: ts, rows, b, o, n, K, h, hb => by
    rw [IsT.IsTs] at h
    obtain ⟨o', n', K', rest, rfl, h1, h2⟩ := h
    rw [List.cons_append, IsT.IsTs]
    exact ⟨o', n', K', rest ++ [[dI o, dI n, K]], rfl, h1, isTs_snoc h2 hb⟩

def RdRes (s : Option (Trm × List UInt8)) (o n : Int) (K : D) (r : ByteArray) (ok : Bool) : Prop :=
  K.oneC = true ∧ match s with
  | some (t, r') => ok = true ∧ r = bsT r' ∧ IsT t o n K
  | none => ok = false

def RdEv (rd : Rdr) (d : Int) : Prop := ∀ l : List UInt8, l.length ≤ 21000 → ∃ o n K r ok, (∀ bx, ev cfg (.call 52 [S (bsT l), I d] bx) = some (.ret (.tup [.agg [I o, I n, .dat K], S r, B ok]) none)) ∧ RdRes (rd l) o n K r ok

def Xof (rows : List (List D)) : PV := if rows.isEmpty then .dat .nil else .own true 3 rows
theorem xof_lt (rows : List (List D)) (h : Nat) : cellLt h (Xof rows) = true := by unfold Xof; split <;> rfl
theorem xof_own {rows : List (List D)} (h : 0 < rows.length) : Xof rows = .own true 3 rows := by
  cases rows with
  | nil => simp at h
  | cons => rfl

theorem len_of {f : Nat} {s : List UInt8} {t : Trm} {r : List UInt8} (h : readP f s = some (t, r)) : r.length ≤ s.length := by
  have := (read_text f s t r h).1
  rw [this, List.length_append]; omega

theorem kids_ev {f : Nat} {d : Int} {op : Int} {k : Nat} (hd : 0 ≤ d) (hd2 : d ≤ 24) (hk : k ≤ 2) (hrd : RdEv (readP f) (d + 1)) : ∀ (m j : Nat) (s : List UInt8) (rows : List (List D)) (ts : List Trm), j + m = k → rows.length = j → IsT.IsTs ts rows → s.length ≤ 21000 →
    (kidsG (readP f) m s = none ∧ ∀ (bx : List Box) (w : ByteArray), ∃ x T, ev cfg (.loop 52 11 ⟨(.dead :: I d :: .dead :: .dead :: .ptr bx.length 0 :: .dead :: .dead :: .dead :: .dead :: .dead :: S (bsT s) :: .dead :: .ptr (bx.length + 2) 0 :: .dead :: .dead :: .dead :: .dead :: .dead :: .dead :: .dead :: .dead :: .dead :: .dead :: .dead :: .dead :: .dead :: .dead :: .dead :: .dead :: .dead :: .dead :: .dead :: .dead :: .dead :: .dead :: .dead :: .dead :: .dead :: .dead :: .dead :: .dead :: .dead :: .dead :: .dead :: .dead :: .dead :: .dead :: .dead :: .dead :: .dead :: I k :: I j :: .dead :: .dead :: .dead :: .dead :: .dead :: .dead :: .dead :: .dead :: .dead :: .dead :: .dead :: .dead :: .dead :: .dead :: .dead :: .dead :: .dead :: .dead :: .dead :: .dead :: .dead :: .dead :: .dead :: .dead :: .dead :: .dead :: .dead :: .dead :: .dead :: .dead :: .dead :: .dead :: .dead :: .dead :: .dead :: .dead :: .dead :: .dead :: .dead :: .dead :: .dead :: .dead :: .dead :: .dead :: .dead :: .dead :: .dead :: .dead :: .dead :: .dead :: .dead :: .dead :: .dead :: .dead :: .dead :: .dead :: .dead :: .dead :: .dead :: .dead :: .dead :: .dead :: .dead :: .dead :: .dead :: .dead :: .dead :: .dead :: .dead :: []), bx ++ [failT, [S w], [I op, I 0, Xof rows]], bx.length, none, false⟩) =
      some (.loop .ret ⟨(.dead :: .dead :: .dead :: .dead :: .ptr bx.length 0 :: S ⟨#[]⟩ :: B false :: .dead :: .dead :: .dead :: S x :: .dead :: .ptr (bx.length + 2) 0 :: .dead :: .dead :: .dead :: .dead :: .dead :: .dead :: .dead :: .dead :: .dead :: .dead :: .dead :: .dead :: .dead :: .dead :: .dead :: .dead :: .dead :: .dead :: .dead :: .dead :: .dead :: .dead :: .dead :: .dead :: .dead :: .dead :: .dead :: .dead :: .dead :: .dead :: .dead :: .dead :: .dead :: .dead :: .dead :: .dead :: .dead :: .dead :: .dead :: .dead :: .dead :: .dead :: .dead :: .dead :: .dead :: .dead :: .dead :: .dead :: .dead :: .dead :: .dead :: .dead :: .dead :: .dead :: .dead :: .dead :: .dead :: .dead :: .dead :: .dead :: .dead :: .dead :: .dead :: .dead :: .dead :: .dead :: .dead :: .dead :: .dead :: .dead :: .dead :: .dead :: .dead :: .dead :: .dead :: .dead :: .dead :: .dead :: .dead :: .dead :: .dead :: .dead :: .dead :: .dead :: .dead :: .dead :: .dead :: .dead :: .dead :: .dead :: .dead :: .dead :: .dead :: .dead :: .dead :: .dead :: .dead :: .dead :: .dead :: .dead :: .dead :: .dead :: .dead :: .dead :: .dead :: .dead :: .dead :: .dead :: []), bx ++ [failT, [S w], T], bx.length, none, false⟩)) ∨
    (∃ ts' r rows', kidsG (readP f) m s = some (ts', r) ∧ rows'.length = k ∧ IsT.IsTs (ts ++ ts') rows' ∧ ∀ (bx : List Box) (w : ByteArray), ev cfg (.loop 52 11 ⟨(.dead :: I d :: .dead :: .dead :: .ptr bx.length 0 :: .dead :: .dead :: .dead :: .dead :: .dead :: S (bsT s) :: .dead :: .ptr (bx.length + 2) 0 :: .dead :: .dead :: .dead :: .dead :: .dead :: .dead :: .dead :: .dead :: .dead :: .dead :: .dead :: .dead :: .dead :: .dead :: .dead :: .dead :: .dead :: .dead :: .dead :: .dead :: .dead :: .dead :: .dead :: .dead :: .dead :: .dead :: .dead :: .dead :: .dead :: .dead :: .dead :: .dead :: .dead :: .dead :: .dead :: .dead :: .dead :: I k :: I j :: .dead :: .dead :: .dead :: .dead :: .dead :: .dead :: .dead :: .dead :: .dead :: .dead :: .dead :: .dead :: .dead :: .dead :: .dead :: .dead :: .dead :: .dead :: .dead :: .dead :: .dead :: .dead :: .dead :: .dead :: .dead :: .dead :: .dead :: .dead :: .dead :: .dead :: .dead :: .dead :: .dead :: .dead :: .dead :: .dead :: .dead :: .dead :: .dead :: .dead :: .dead :: .dead :: .dead :: .dead :: .dead :: .dead :: .dead :: .dead :: .dead :: .dead :: .dead :: .dead :: .dead :: .dead :: .dead :: .dead :: .dead :: .dead :: .dead :: .dead :: .dead :: .dead :: .dead :: .dead :: .dead :: .dead :: .dead :: .dead :: .dead :: []), bx ++ [failT, [S w], [I op, I 0, Xof rows]], bx.length, none, false⟩) =
      some (.loop (.exit 0) ⟨(.dead :: .dead :: .dead :: .dead :: .ptr bx.length 0 :: .dead :: .dead :: .dead :: .dead :: .dead :: S (bsT r) :: .dead :: .ptr (bx.length + 2) 0 :: .dead :: .dead :: .dead :: .dead :: .dead :: .dead :: .dead :: .dead :: .dead :: .dead :: .dead :: .dead :: .dead :: .dead :: .dead :: .dead :: .dead :: .dead :: .dead :: .dead :: .dead :: .dead :: .dead :: .dead :: .dead :: .dead :: .dead :: .dead :: .dead :: .dead :: .dead :: .dead :: .dead :: .dead :: .dead :: .dead :: .dead :: .dead :: .dead :: .dead :: .dead :: .dead :: .dead :: .dead :: .dead :: .dead :: .dead :: .dead :: .dead :: .dead :: .dead :: .dead :: .dead :: .dead :: .dead :: .dead :: .dead :: .dead :: .dead :: .dead :: .dead :: .dead :: .dead :: .dead :: .dead :: .dead :: .dead :: .dead :: .dead :: .dead :: .dead :: .dead :: .dead :: .dead :: .dead :: .dead :: .dead :: .dead :: .dead :: .dead :: .dead :: .dead :: .dead :: .dead :: .dead :: .dead :: .dead :: .dead :: .dead :: .dead :: .dead :: .dead :: .dead :: .dead :: .dead :: .dead :: .dead :: .dead :: .dead :: .dead :: .dead :: .dead :: .dead :: .dead :: .dead :: .dead :: .dead :: .dead :: []), bx ++ [failT, [S w], [I op, I 0, Xof rows']], bx.length, none, false⟩))
  | 0, j, s, rows, ts, hj, hrl, hts, hs => by
    refine .inr ⟨[], s, rows, rfl, by omega, by rw [List.append_nil]; exact hts, fun bx w => ?_⟩
    exact ev_step cfg (e52 (xof_lt rows) (decide_eq_false (by omega)))
  | m + 1, j, s, rows, ts, hj, hrl, hts, hs => by
    have hjk : decide ((j : Int) < (k : Int)) = true := decide_eq_true (by omega)
    by_cases hsp : ∃ s1, s = 32 :: s1
    · obtain ⟨s1, rfl⟩ := hsp
      simp only [List.length_cons] at hs
      have hcp := fun bx => cp_yes 32 s1 bx
      obtain ⟨o, n, K, r, ok, hev, hK, hres⟩ := hrd s1 (by omega)
      have hw : IntKind.wrap .i64 (d + 1) = d + 1 := wrap_lo (by omega) (by omega)
      cases hr : readP f s1 with
      | none =>
        rw [hr] at hres
        simp only at hres
        subst hres
        exact .inl ⟨by simp only [kidsG, if_true, hr], fun bx w => ⟨bsT (32 :: s1), _, ev_step cfg (r52_nord (x1 := .dead) (xof_lt rows) hjk hcp hw hK hev)⟩⟩
      | some p =>
        obtain ⟨t, r'⟩ := p
        rw [hr] at hres
        simp only at hres
        obtain ⟨rfl, rfl, hT⟩ := hres
        have hlen := len_of hr
        have hst : ∀ (bx : List Box) (w : ByteArray), stepJ (ev cfg) cfg (.loop 52 11 ⟨(.dead :: I d :: .dead :: .dead :: .ptr bx.length 0 :: .dead :: .dead :: .dead :: .dead :: .dead :: S (bsT (32 :: s1)) :: .dead :: .ptr (bx.length + 2) 0 :: .dead :: .dead :: .dead :: .dead :: .dead :: .dead :: .dead :: .dead :: .dead :: .dead :: .dead :: .dead :: .dead :: .dead :: .dead :: .dead :: .dead :: .dead :: .dead :: .dead :: .dead :: .dead :: .dead :: .dead :: .dead :: .dead :: .dead :: .dead :: .dead :: .dead :: .dead :: .dead :: .dead :: .dead :: .dead :: .dead :: .dead :: I k :: I j :: .dead :: .dead :: .dead :: .dead :: .dead :: .dead :: .dead :: .dead :: .dead :: .dead :: .dead :: .dead :: .dead :: .dead :: .dead :: .dead :: .dead :: .dead :: .dead :: .dead :: .dead :: .dead :: .dead :: .dead :: .dead :: .dead :: .dead :: .dead :: .dead :: .dead :: .dead :: .dead :: .dead :: .dead :: .dead :: .dead :: .dead :: .dead :: .dead :: .dead :: .dead :: .dead :: .dead :: .dead :: .dead :: .dead :: .dead :: .dead :: .dead :: .dead :: .dead :: .dead :: .dead :: .dead :: .dead :: .dead :: .dead :: .dead :: .dead :: .dead :: .dead :: .dead :: .dead :: .dead :: .dead :: .dead :: .dead :: .dead :: .dead :: []), bx ++ [failT, [S w], [I op, I 0, Xof rows]], bx.length, none, false⟩) =
            ev cfg (.loop 52 11 ⟨(.dead :: I d :: .dead :: .dead :: .ptr bx.length 0 :: .dead :: .dead :: .dead :: .dead :: .dead :: S (bsT r') :: .dead :: .ptr (bx.length + 2) 0 :: .dead :: .dead :: .dead :: .dead :: .dead :: .dead :: .dead :: .dead :: .dead :: .dead :: .dead :: .dead :: .dead :: .dead :: .dead :: .dead :: .dead :: .dead :: .dead :: .dead :: .dead :: .dead :: .dead :: .dead :: .dead :: .dead :: .dead :: .dead :: .dead :: .dead :: .dead :: .dead :: .dead :: .dead :: .dead :: .dead :: .dead :: I k :: I ((j + 1 : Nat) : Int) :: .dead :: .dead :: .dead :: .dead :: .dead :: .dead :: .dead :: .dead :: .dead :: .dead :: .dead :: .dead :: .dead :: .dead :: .dead :: .dead :: .dead :: .dead :: .dead :: .dead :: .dead :: .dead :: .dead :: .dead :: .dead :: .dead :: .dead :: .dead :: .dead :: .dead :: .dead :: .dead :: .dead :: .dead :: .dead :: .dead :: .dead :: .dead :: .dead :: .dead :: .dead :: .dead :: .dead :: .dead :: .dead :: .dead :: .dead :: .dead :: .dead :: .dead :: .dead :: .dead :: .dead :: .dead :: .dead :: .dead :: .dead :: .dead :: .dead :: .dead :: .dead :: .dead :: .dead :: .dead :: .dead :: .dead :: .dead :: .dead :: .dead :: []), bx ++ [failT, [S w], [I op, I 0, Xof (rows ++ [[dI o, dI n, K]])]], bx.length, none, false⟩) := fun bx w => by
          have hs1 : IntKind.wrap .i64 ((j : Int) + 1) = ((j + 1 : Nat) : Int) := by rw [wrap_lo (by omega) (by omega)]; rfl
          rw [xof_own (rows := rows ++ [[dI o, dI n, K]]) (by simp)]
          cases rows with
          | nil => exact r52_one hjk hcp hw hK hev hs1
          | cons a rs => exact r52_more hjk hcp hw hK hev hs1 (by rw [hrl]; omega)
        rcases kids_ev hd hd2 hk hrd m (j + 1) r' (rows ++ [[dI o, dI n, K]]) (ts ++ [t]) (by omega) (by simp [hrl]) (isTs_snoc hts hT) (by omega) with ⟨h1, h2⟩ | ⟨ts', r2, rows', h1, h2, h3, h4⟩
        · refine .inl ⟨by simp only [kidsG, if_true, hr, h1], fun bx w => ?_⟩
          obtain ⟨x, T, h2⟩ := h2 bx w
          exact ⟨x, T, ev_step cfg ((hst bx w).trans h2)⟩
        · exact .inr ⟨t :: ts', r2, rows', kidsG_mk hr h1, h2, by simpa using h3, fun bx w => ev_step cfg ((hst bx w).trans (h4 bx w))⟩
    · have hno : ∀ xs, s ≠ 32 :: xs := fun xs e => hsp ⟨xs, e⟩
      refine .inl ⟨?_, fun bx w => ⟨bsT s, _, ev_step cfg (r52_nosp (xof_lt rows) hjk fun bx => cp_no 32 s hno bx)⟩⟩
      cases s with
      | nil => rfl
      | cons x xs =>
        have : ¬ x = 32 := fun e => hno xs (by rw [e])
        simp only [kidsG, if_neg this]

theorem isT_leaf {o n : Int} (h1 : i64 o) (h2 : i64 n) : IsT (.mk o n []) o n .nil := by
  rw [IsT]
  exact ⟨rfl, rfl, h1, h2, [], isS_nil 3, by rw [IsT.IsTs], by simp⟩

theorem read_ev : ∀ (f : Nat) (d : Int), d + f = 25 → 0 ≤ d → RdEv (readP f) d
  | 0, d, hd, h0, l, hl => ⟨0, 0, .nil, _, false, fun bx => ev_step cfg (f52_deep (decide_eq_true (by omega))), rfl, rfl⟩
  | f + 1, d, hd, h0, l, hl => by
    have hd' : decide (d > 24) = false := decide_eq_false (by omega)
    by_cases h40 : ∃ s1, l = 40 :: s1
    · obtain ⟨s1, rfl⟩ := h40
      simp only [List.length_cons] at hl
      have hcp := fun bx => cp_yes 40 s1 bx
      have hc := fun bx => cut_ev s1 (by omega) bx
      have hsr := fun bx : List Box => search_ev (w := cutW s1) (lb := bx.length + 1) (bx := bx ++ [failT, [S (bsT (cutW s1))]]) (by simp) (by simp)
      have hrp : readP (f + 1) (40 :: s1) = opP (readP f) s1 := by rw [readP, if_pos rfl]
      rw [hrp]
      unfold opP
      cases hf : findW (cutW s1) 15 0 with
      | none =>
        simp only [hf, idxJ] at hsr
        exact ⟨0, 0, .nil, _, false, fun bx => ev_step cfg (f52_noop hd' hcp hc gw (by simp [show wordsD.length = 60 from rfl]) (hsr bx) (by decide)), rfl, rfl⟩
      | some op =>
        simp only [hf, idxJ] at hsr
        obtain ⟨a1, a2, a3⟩ := findW_ok hf
        have hok : okOp (op : Int) = true := by simp only [okOp, Bool.and_eq_true, decide_eq_true_eq]; omega
        have W := wd hok
        have har : arity op ≤ 2 := by unfold arity; split <;> omega
        have hlc : (cutR s1).length ≤ 21000 := by unfold cutR; rw [List.length_drop]; omega
        have hks := kids_ev (f := f) (d := d) (op := op) (k := arity op) h0 (by omega) har (read_ev f (d + 1) (by omega) (by omega)) (arity op) 0 (cutR s1) [] [] (by omega) rfl (by rw [IsT.IsTs]) hlc
        have hwl : (60 ≤ wordsD.length) = True := by simp [show wordsD.length = 60 from rfl]
        have hk0 : decide ((op : Int) < 0) = false := decide_eq_false (by omega)
        have i64op : i64 (op : Int) := by unfold i64; omega
        simp only
        rcases hks with ⟨h1, h2⟩ | ⟨ks, s2, rows', h1, h2, h3, h4⟩
        · rw [h1]
          refine ⟨0, 0, .nil, ⟨#[]⟩, false, fun bx => ?_, rfl, rfl⟩
          obtain ⟨x, T, h2⟩ := h2 bx (bsT (cutW s1))
          exact ev_step cfg (f52_fail hd' hcp hc gw hwl (hsr bx) hk0 W.neg W.lt W.r1 h2)
        · rw [h1]
          simp only
          rw [List.nil_append] at h3
          rw [xof_own (rows := rows') (by rw [h2]; exact arity_pos op)] at h4
          have hT : IsT (.mk op 0 ks) op 0 (.sl 3 rows') := by
            rw [IsT]
            refine ⟨rfl, rfl, i64op, by unfold i64; omega, rows', isS_sl 3 rows', h3, ?_⟩
            rw [← isTs_len h3, h2]; omega
          by_cases h41 : ∃ s3, s2 = 41 :: s3
          · obtain ⟨s3, rfl⟩ := h41
            refine ⟨op, 0, .sl 3 rows', bsT s3, true, fun bx => ev_step cfg (f52_ok hd' hcp hc gw hwl (hsr bx) hk0 W.neg W.lt W.r1 (h4 bx _) fun bx => cp_yes 41 s3 bx), rfl, ?_⟩
            simp only [if_true]
            exact ⟨trivial, trivial, hT⟩
          · have hno : ∀ xs, s2 ≠ 41 :: xs := fun xs e => h41 ⟨xs, e⟩
            refine ⟨op, 0, .sl 3 rows', bsT s2, false, fun bx => ev_step cfg (f52_ok hd' hcp hc gw hwl (hsr bx) hk0 W.neg W.lt W.r1 (h4 bx _) fun bx => cp_no 41 s2 hno bx), rfl, ?_⟩
            cases s2 with
            | nil => rfl
            | cons x s3 =>
              have : ¬ x = 41 := fun e => hno s3 (by rw [e])
              simp only [if_neg this]
    · have hno : ∀ xs, l ≠ 40 :: xs := fun xs e => h40 ⟨xs, e⟩
      have hcp := fun bx => cp_no 40 l hno bx
      have hc := fun bx => cut_ev l (by omega) bx
      have hrp : readP (f + 1) l = leafP l := by
        cases l with
        | nil => rfl
        | cons x xs =>
          have : ¬ x = 40 := fun e => hno xs (by rw [e])
          rw [readP, if_neg this]
      rw [hrp]
      have hcl : (cutW l).length ≤ 21000 := by unfold cutW; rw [List.length_take]; omega
      unfold leafP
      by_cases h36 : ∃ w', cutW l = 36 :: w'
      · obtain ⟨w', hw⟩ := h36
        rw [hw] at hcl
        simp only [List.length_cons] at hcl
        obtain ⟨m, hn, hm⟩ := number_ev w' (by omega)
        rw [hw] at hc
        refine ⟨2, m, .nil, _, _, fun bx => ev_step cfg (f52_var hd' hcp hc (fun bx => cp_yes 36 w' bx) hn), rfl, ?_⟩
        rw [hw]
        simp only [if_true]
        cases hp : numP w' with
        | none => rfl
        | some n =>
          obtain rfl := hm n hp
          by_cases h4 : m < 4
          · simp only [if_pos h4]
            have := numP_some hp
            exact ⟨by simp [h4], trivial, isT_leaf (by unfold i64; omega) (by unfold i64; omega)⟩
          · simp only [if_neg h4]
            simp [h4]
      · have hnw : ∀ xs, cutW l ≠ 36 :: xs := fun xs e => h36 ⟨xs, e⟩
        obtain ⟨m, hn, hm⟩ := number_ev (cutW l) (by omega)
        refine ⟨1, m, .nil, _, _, fun bx => ev_step cfg (f52_num hd' hcp hc (fun bx => cp_no 36 (cutW l) hnw bx) hn), rfl, ?_⟩
        cases hw : cutW l with
        | nil => rfl
        | cons x w =>
          have hx : ¬ x = 36 := fun e => hnw w (by rw [hw, e])
          rw [hw] at hm
          simp only [if_neg hx]
          cases hp : numP (x :: w) with
          | none => rfl
          | some n =>
            obtain rfl := hm n hp
            have := numP_some hp
            exact ⟨rfl, rfl, isT_leaf (by unfold i64; omega) (by unfold i64; omega)⟩
end Go.Proofs.YtgppmcpbphgnnaaDoor
