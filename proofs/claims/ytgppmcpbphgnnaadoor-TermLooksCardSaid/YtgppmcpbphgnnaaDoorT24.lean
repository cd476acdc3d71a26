/- What the reference's read answers. No condition. -/
import Derived.Test.YtgppmcpbphgnnaaDoorT8
import Derived.Test.YtgppmcpbphgnnaaDoorT4
import Derived.Test.YtgppmcpbphgnnaaDoorT17
import Derived.Test.YtgppmcpbphgnnaaDoorT18
import Derived.Test.YtgppmcpbphgnnaaDoorT23
set_option linter.unusedSimpArgs false
set_option linter.unusedVariables false
set_option linter.unusedSectionVars false
namespace Go.Proofs.YtgppmcpbphgnnaaDoor
open Go Go.Vx
set_option maxRecDepth 10000

theorem at_yes {l : List UInt8} {x : UInt8} {xs : List UInt8} {k : Nat} (h : l.drop k = x :: xs) (hmax : l.length < 1000000) (bx : List Box) : ev cfg (.call 77 [S (bsT l), I (k : Int), S (bsT [x])] bx) = some (.ret (B true) none) := by
  have := at_ev l [x] k (Nat.le_of_lt (drop_cons h).2.2) hmax (by simp) bx
  rw [h] at this
  simpa using this
theorem at_no {l : List UInt8} {x : UInt8} {k : Nat} (h : ∀ xs, l.drop k ≠ x :: xs) (hk : k ≤ l.length) (hmax : l.length < 1000000) (bx : List Box) : ev cfg (.call 77 [S (bsT l), I (k : Int), S (bsT [x])] bx) = some (.ret (B false) none) := by
  have := at_ev l [x] k hk hmax (by simp) bx
  cases hd : l.drop k with
  | nil => rw [hd] at this; simpa using this
  | cons y ys =>
    rw [hd] at this
    have hne : ¬ y = x := fun e => h ys (by rw [hd, e])
    have e : (((y :: ys).take [x].length == [x]) : Bool) = false := by simp [hne]
    rw [e] at this
    exact this

def RRes (l : List UInt8) (s : Option (Trm × List UInt8)) (a n : Int) (K : D) (e : Int) : Prop :=
  K.oneC = true ∧ match s with
  | some (t, r) => (∃ j : Nat, j ≤ l.length ∧ r = l.drop j ∧ e = (j : Int)) ∧ IsT t a n K
  | none => decide (e < 0) = true

def RRdEv (rd : Rdr) (l : List UInt8) (d : Int) : Prop := ∀ i : Nat, i ≤ l.length → ∃ a n K e, (∀ bx, ev cfg (.call 53 [S (bsT l), I (i : Int), I d] bx) = some (.ret (.agg [I a, I n, .dat K, I e]) none)) ∧ RRes l (rd (l.drop i)) a n K e

theorem tail_lt (op : Int) (rows : List (List D)) (h : Nat) : List.all [I op, I 0, Xof rows] (cellLt h) = true := by
  unfold Xof
  split <;> rfl
theorem rkids_ev {l : List UInt8} {rd : Rdr} {d : Int} {op : Int} {k : Nat} (hmax : l.length ≤ 21000) (hd : 0 ≤ d) (hd2 : d ≤ 24) (hk : k ≤ 2) (hrd : RRdEv rd l (d + 1)) (h79 : ∀ bx : List Box, ev cfg (.call 79 [I op] bx) = some (.ret (I (k : Int)) none)) : ∀ (m j p : Nat) (rows : List (List D)) (ts : List Trm), j + m = k → rows.length = j → IsT.IsTs ts rows → p ≤ l.length →
    (kidsG rd m (l.drop p) = none ∧ ∃ a n K e, D.oneC K = true ∧ decide (e < 0) = true ∧ ∀ (bx : List Box), ∃ q T, List.all T (cellLt (bx.length + 1)) = true ∧ ev cfg (.loop 53 17 ⟨(S (bsT l) :: .dead :: I d :: .dead :: .dead :: .dead :: .ptr bx.length 0 :: .dead :: I op :: .ptr (bx.length + 1) 0 :: I p :: I j :: .dead :: .dead :: .dead :: .dead :: .dead :: .dead :: .dead :: .dead :: .dead :: .dead :: .dead :: .dead :: .dead :: .dead :: .dead :: .dead :: .dead :: .dead :: .dead :: .dead :: .dead :: .dead :: .dead :: .dead :: .dead :: .dead :: .dead :: .dead :: .dead :: .dead :: .dead :: .dead :: .dead :: .dead :: .dead :: .dead :: .dead :: .dead :: .dead :: .dead :: .dead :: .dead :: .dead :: .dead :: .dead :: .dead :: .dead :: .dead :: .dead :: .dead :: .dead :: .dead :: .dead :: .dead :: .dead :: .dead :: .dead :: .dead :: .dead :: .dead :: .dead :: .dead :: .dead :: .dead :: .dead :: .dead :: .dead :: .dead :: .dead :: .dead :: .dead :: .dead :: .dead :: .dead :: .dead :: .dead :: .dead :: .dead :: .dead :: .dead :: .dead :: .dead :: .dead :: .dead :: .dead :: .dead :: .dead :: .dead :: .dead :: .dead :: .dead :: .dead :: .dead :: .dead :: .dead :: []), bx ++ [[I 0, I 0, .dat .nil, I 0], [I op, I 0, Xof rows]], bx.length, none, false⟩) =
      some (.loop .ret ⟨(S (bsT l) :: .dead :: .dead :: .dead :: .dead :: .dead :: .ptr bx.length 0 :: .dead :: .dead :: .ptr (bx.length + 1) 0 :: I q :: .dead :: .dead :: .dead :: .dead :: .dead :: .dead :: .dead :: .dead :: .dead :: .dead :: .dead :: .dead :: .dead :: .dead :: .dead :: .dead :: .dead :: .dead :: .dead :: .dead :: .dead :: .dead :: .dead :: .dead :: .dead :: .dead :: .dead :: .dead :: .dead :: .dead :: .dead :: .dead :: .dead :: .dead :: .dead :: .dead :: .dead :: .dead :: .dead :: .dead :: .dead :: .dead :: .dead :: .dead :: .dead :: .dead :: .dead :: .dead :: .dead :: .dead :: .dead :: .dead :: .dead :: .dead :: .dead :: .dead :: .dead :: .dead :: .dead :: .dead :: .dead :: .dead :: .dead :: .dead :: .dead :: .dead :: .dead :: .dead :: .dead :: .dead :: .dead :: .dead :: .dead :: .dead :: .dead :: .dead :: .dead :: .dead :: .dead :: .dead :: .dead :: .dead :: .dead :: .dead :: .dead :: .dead :: .dead :: .dead :: .dead :: .dead :: .dead :: .dead :: .dead :: .dead :: .dead :: .dead :: []), bx ++ [[I a, I n, .dat K, I e], T], bx.length, none, false⟩)) ∨
    (∃ ts' q rows', q ≤ l.length ∧ kidsG rd m (l.drop p) = some (ts', l.drop q) ∧ rows'.length = k ∧ IsT.IsTs (ts ++ ts') rows' ∧ ∀ (bx : List Box), ev cfg (.loop 53 17 ⟨(S (bsT l) :: .dead :: I d :: .dead :: .dead :: .dead :: .ptr bx.length 0 :: .dead :: I op :: .ptr (bx.length + 1) 0 :: I p :: I j :: .dead :: .dead :: .dead :: .dead :: .dead :: .dead :: .dead :: .dead :: .dead :: .dead :: .dead :: .dead :: .dead :: .dead :: .dead :: .dead :: .dead :: .dead :: .dead :: .dead :: .dead :: .dead :: .dead :: .dead :: .dead :: .dead :: .dead :: .dead :: .dead :: .dead :: .dead :: .dead :: .dead :: .dead :: .dead :: .dead :: .dead :: .dead :: .dead :: .dead :: .dead :: .dead :: .dead :: .dead :: .dead :: .dead :: .dead :: .dead :: .dead :: .dead :: .dead :: .dead :: .dead :: .dead :: .dead :: .dead :: .dead :: .dead :: .dead :: .dead :: .dead :: .dead :: .dead :: .dead :: .dead :: .dead :: .dead :: .dead :: .dead :: .dead :: .dead :: .dead :: .dead :: .dead :: .dead :: .dead :: .dead :: .dead :: .dead :: .dead :: .dead :: .dead :: .dead :: .dead :: .dead :: .dead :: .dead :: .dead :: .dead :: .dead :: .dead :: .dead :: .dead :: .dead :: .dead :: []), bx ++ [[I 0, I 0, .dat .nil, I 0], [I op, I 0, Xof rows]], bx.length, none, false⟩) =
      some (.loop (.exit 2) ⟨(S (bsT l) :: .dead :: .dead :: .dead :: .dead :: .dead :: .ptr bx.length 0 :: .dead :: .dead :: .ptr (bx.length + 1) 0 :: I q :: .dead :: .dead :: .dead :: .dead :: .dead :: .dead :: .dead :: .dead :: .dead :: .dead :: .dead :: .dead :: .dead :: .dead :: .dead :: .dead :: .dead :: .dead :: .dead :: .dead :: .dead :: .dead :: .dead :: .dead :: .dead :: .dead :: .dead :: .dead :: .dead :: .dead :: .dead :: .dead :: .dead :: .dead :: .dead :: .dead :: .dead :: .dead :: .dead :: .dead :: .dead :: .dead :: .dead :: .dead :: .dead :: .dead :: .dead :: .dead :: .dead :: .dead :: .dead :: .dead :: .dead :: .dead :: .dead :: .dead :: .dead :: .dead :: .dead :: .dead :: .dead :: .dead :: .dead :: .dead :: .dead :: .dead :: .dead :: .dead :: .dead :: .dead :: .dead :: .dead :: .dead :: .dead :: .dead :: .dead :: .dead :: .dead :: .dead :: .dead :: .dead :: .dead :: .dead :: .dead :: .dead :: .dead :: .dead :: .dead :: .dead :: .dead :: .dead :: .dead :: .dead :: .dead :: .dead :: .dead :: []), bx ++ [[I 0, I 0, .dat .nil, I 0], [I op, I 0, Xof rows']], bx.length, none, false⟩))
  | 0, j, p, rows, ts, hj, hrl, hts, hp => by
    refine .inr ⟨[], p, rows, hp, rfl, by omega, by rw [List.append_nil]; exact hts, fun bx => ?_⟩
    exact ev_step cfg (e53k (xof_lt rows) h79 (decide_eq_false (by omega)))
  | m + 1, j, p, rows, ts, hj, hrl, hts, hp => by
    have hjk : decide ((j : Int) < (k : Int)) = true := decide_eq_true (by omega)
    by_cases hsp : ∃ s1, l.drop p = 32 :: s1
    · obtain ⟨s1, hs⟩ := hsp
      have hcp := fun bx => at_yes hs (by omega) bx
      obtain ⟨_, hs1, hlt⟩ := drop_cons hs
      obtain ⟨a, n, K, e, hev, hK, hres⟩ := hrd (p + 1) hlt
      have hw : IntKind.wrap .i64 (d + 1) = d + 1 := wrap_lo (by omega) (by omega)
      have hw1 : IntKind.wrap .i64 ((p : Int) + 1) = (p : Int) + 1 := wrap_lo (by omega) (by omega)
      rw [hs1] at hres
      cases hr : rd s1 with
      | none =>
        rw [hr] at hres
        simp only at hres
        refine .inl ⟨by rw [hs]; simp only [kidsG, if_true, hr], a, n, K, e, hK, hres, fun bx => ⟨p, [I op, I 0, Xof rows], tail_lt op rows _, ev_step cfg (r53k_fail (xof_lt rows) h79 hjk hcp hw1 hw hK hev hres)⟩⟩
      | some pr =>
        obtain ⟨t, r'⟩ := pr
        rw [hr] at hres
        simp only at hres
        obtain ⟨⟨q, hq, rfl, rfl⟩, hT⟩ := hres
        have hst : ∀ (bx : List Box), stepJ (ev cfg) cfg (.loop 53 17 ⟨(S (bsT l) :: .dead :: I d :: .dead :: .dead :: .dead :: .ptr bx.length 0 :: .dead :: I op :: .ptr (bx.length + 1) 0 :: I p :: I j :: .dead :: .dead :: .dead :: .dead :: .dead :: .dead :: .dead :: .dead :: .dead :: .dead :: .dead :: .dead :: .dead :: .dead :: .dead :: .dead :: .dead :: .dead :: .dead :: .dead :: .dead :: .dead :: .dead :: .dead :: .dead :: .dead :: .dead :: .dead :: .dead :: .dead :: .dead :: .dead :: .dead :: .dead :: .dead :: .dead :: .dead :: .dead :: .dead :: .dead :: .dead :: .dead :: .dead :: .dead :: .dead :: .dead :: .dead :: .dead :: .dead :: .dead :: .dead :: .dead :: .dead :: .dead :: .dead :: .dead :: .dead :: .dead :: .dead :: .dead :: .dead :: .dead :: .dead :: .dead :: .dead :: .dead :: .dead :: .dead :: .dead :: .dead :: .dead :: .dead :: .dead :: .dead :: .dead :: .dead :: .dead :: .dead :: .dead :: .dead :: .dead :: .dead :: .dead :: .dead :: .dead :: .dead :: .dead :: .dead :: .dead :: .dead :: .dead :: .dead :: .dead :: .dead :: .dead :: []), bx ++ [[I 0, I 0, .dat .nil, I 0], [I op, I 0, Xof rows]], bx.length, none, false⟩) =
            ev cfg (.loop 53 17 ⟨(S (bsT l) :: .dead :: I d :: .dead :: .dead :: .dead :: .ptr bx.length 0 :: .dead :: I op :: .ptr (bx.length + 1) 0 :: I q :: I ((j + 1 : Nat) : Int) :: .dead :: .dead :: .dead :: .dead :: .dead :: .dead :: .dead :: .dead :: .dead :: .dead :: .dead :: .dead :: .dead :: .dead :: .dead :: .dead :: .dead :: .dead :: .dead :: .dead :: .dead :: .dead :: .dead :: .dead :: .dead :: .dead :: .dead :: .dead :: .dead :: .dead :: .dead :: .dead :: .dead :: .dead :: .dead :: .dead :: .dead :: .dead :: .dead :: .dead :: .dead :: .dead :: .dead :: .dead :: .dead :: .dead :: .dead :: .dead :: .dead :: .dead :: .dead :: .dead :: .dead :: .dead :: .dead :: .dead :: .dead :: .dead :: .dead :: .dead :: .dead :: .dead :: .dead :: .dead :: .dead :: .dead :: .dead :: .dead :: .dead :: .dead :: .dead :: .dead :: .dead :: .dead :: .dead :: .dead :: .dead :: .dead :: .dead :: .dead :: .dead :: .dead :: .dead :: .dead :: .dead :: .dead :: .dead :: .dead :: .dead :: .dead :: .dead :: .dead :: .dead :: .dead :: .dead :: []), bx ++ [[I 0, I 0, .dat .nil, I 0], [I op, I 0, Xof (rows ++ [[dI a, dI n, K]])]], bx.length, none, false⟩) := fun bx => by
          have hs1 : IntKind.wrap .i64 ((j : Int) + 1) = ((j + 1 : Nat) : Int) := by rw [wrap_lo (by omega) (by omega)]; rfl
          rw [xof_own (rows := rows ++ [[dI a, dI n, K]]) (by simp)]
          cases rows with
          | nil => exact r53k_one h79 hjk hcp hw1 hw hK hs1 hev (decide_eq_false (by omega))
          | cons y rs => exact r53k_more h79 hjk hcp hw1 hw hK hs1 (by rw [hrl]; omega) hev (decide_eq_false (by omega))
        rcases rkids_ev hmax hd hd2 hk hrd h79 m (j + 1) q (rows ++ [[dI a, dI n, K]]) (ts ++ [t]) (by omega) (by simp [hrl]) (isTs_snoc hts hT) hq with ⟨h1, a2, n2, K2, e2, hK2, he2, h2⟩ | ⟨ts', q2, rows', h0, h1, h2, h3, h4⟩
        · refine .inl ⟨by rw [hs]; simp only [kidsG, if_true, hr, h1], a2, n2, K2, e2, hK2, he2, fun bx => ?_⟩
          obtain ⟨x, T, hT, h2⟩ := h2 bx
          exact ⟨x, T, hT, ev_step cfg ((hst bx).trans h2)⟩
        · exact .inr ⟨t :: ts', q2, rows', h0, by rw [hs]; exact kidsG_mk hr h1, h2, by simpa using h3, fun bx => ev_step cfg ((hst bx).trans (h4 bx))⟩
    · have hno : ∀ xs, l.drop p ≠ 32 :: xs := fun xs e => hsp ⟨xs, e⟩
      refine .inl ⟨?_, 0, 0, .nil, -1, rfl, rfl, fun bx => ⟨p, [I op, I 0, Xof rows], tail_lt op rows _, ev_step cfg (r53k_nosp (xof_lt rows) h79 hjk fun bx => at_no hno hp (by omega) bx)⟩⟩
      cases hd : l.drop p with
      | nil => rfl
      | cons x xs =>
        have : ¬ x = 32 := fun e => hno xs (by rw [hd, e])
        simp only [kidsG, if_neg this]

theorem word_ev {op : Int} (h : okOp op = true) (bx : List Box) : ev cfg (.call 71 [I op] bx) = some (.ret (S (bsT (wordL op))) none) := ev_step cfg (f71 h)

/-- the loop over the operators -/
theorem ops_ev {l : List UInt8} (hmax : l.length ≤ 21000) {i : Nat} (hi : i < l.length) {d : Int} (bx : List Box) (out : Out) : ∀ (f op : Nat), op + f = 15 → 3 ≤ op →
    (findQ (l.drop (i + 1)) f op = none → out = .loop (.exit 0) ⟨(.dead :: .dead :: .dead :: .dead :: .dead :: .dead :: .ptr bx.length 0 :: .dead :: .dead :: .dead :: .dead :: .dead :: .dead :: .dead :: .dead :: .dead :: .dead :: .dead :: .dead :: .dead :: .dead :: .dead :: .dead :: .dead :: .dead :: .dead :: .dead :: .dead :: .dead :: .dead :: .dead :: .dead :: .dead :: .dead :: .dead :: .dead :: .dead :: .dead :: .dead :: .dead :: .dead :: .dead :: .dead :: .dead :: .dead :: .dead :: .dead :: .dead :: .dead :: .dead :: .dead :: .dead :: .dead :: .dead :: .dead :: .dead :: .dead :: .dead :: .dead :: .dead :: .dead :: .dead :: .dead :: .dead :: .dead :: .dead :: .dead :: .dead :: .dead :: .dead :: .dead :: .dead :: .dead :: .dead :: .dead :: .dead :: .dead :: .dead :: .dead :: .dead :: .dead :: .dead :: .dead :: .dead :: .dead :: .dead :: .dead :: .dead :: .dead :: .dead :: .dead :: .dead :: .dead :: .dead :: .dead :: .dead :: .dead :: .dead :: .dead :: .dead :: .dead :: .dead :: .dead :: .dead :: .dead :: .dead :: .dead :: []), bx ++ [[I 0, I 0, .dat .nil, I 0]], bx.length, none, false⟩) →
    (∀ op' : Nat, findQ (l.drop (i + 1)) f op = some op' → ev cfg (.loop 53 11 ⟨(S (bsT l) :: I (i : Int) :: I d :: .dead :: .dead :: .dead :: .ptr bx.length 0 :: .dead :: I (op' : Int) :: .dead :: .dead :: .dead :: .dead :: .dead :: .dead :: .dead :: .dead :: .dead :: .dead :: .dead :: .dead :: .dead :: .dead :: .dead :: .dead :: .dead :: .dead :: .dead :: .dead :: .dead :: .dead :: .dead :: .dead :: .dead :: .dead :: .dead :: .dead :: .dead :: .dead :: .dead :: .dead :: .dead :: .dead :: .dead :: .dead :: .dead :: .dead :: .dead :: .dead :: .dead :: .dead :: .dead :: .dead :: .dead :: .dead :: .dead :: .dead :: .dead :: .dead :: .dead :: .dead :: .dead :: .dead :: .dead :: .dead :: .dead :: .dead :: .dead :: .dead :: .dead :: .dead :: .dead :: .dead :: .dead :: .dead :: .dead :: .dead :: .dead :: .dead :: .dead :: .dead :: .dead :: .dead :: .dead :: .dead :: .dead :: .dead :: .dead :: .dead :: .dead :: .dead :: .dead :: .dead :: .dead :: .dead :: .dead :: .dead :: .dead :: .dead :: .dead :: .dead :: .dead :: .dead :: .dead :: .dead :: .dead :: .dead :: []), bx ++ [[I 0, I 0, .dat .nil, I 0]], bx.length, none, false⟩) = some out) →
    ev cfg (.loop 53 11 ⟨(S (bsT l) :: I (i : Int) :: I d :: .dead :: .dead :: .dead :: .ptr bx.length 0 :: .dead :: I (op : Int) :: .dead :: .dead :: .dead :: .dead :: .dead :: .dead :: .dead :: .dead :: .dead :: .dead :: .dead :: .dead :: .dead :: .dead :: .dead :: .dead :: .dead :: .dead :: .dead :: .dead :: .dead :: .dead :: .dead :: .dead :: .dead :: .dead :: .dead :: .dead :: .dead :: .dead :: .dead :: .dead :: .dead :: .dead :: .dead :: .dead :: .dead :: .dead :: .dead :: .dead :: .dead :: .dead :: .dead :: .dead :: .dead :: .dead :: .dead :: .dead :: .dead :: .dead :: .dead :: .dead :: .dead :: .dead :: .dead :: .dead :: .dead :: .dead :: .dead :: .dead :: .dead :: .dead :: .dead :: .dead :: .dead :: .dead :: .dead :: .dead :: .dead :: .dead :: .dead :: .dead :: .dead :: .dead :: .dead :: .dead :: .dead :: .dead :: .dead :: .dead :: .dead :: .dead :: .dead :: .dead :: .dead :: .dead :: .dead :: .dead :: .dead :: .dead :: .dead :: .dead :: .dead :: .dead :: .dead :: .dead :: .dead :: .dead :: []), bx ++ [[I 0, I 0, .dat .nil, I 0]], bx.length, none, false⟩) = some out
  | 0, op, h, h3, h1, h2 => by
    rw [h1 rfl]
    exact ev_step cfg (e53 (decide_eq_false (by omega)))
  | f + 1, op, h, h3, h1, h2 => by
    rw [findQ] at h1 h2
    cases hc : ((l.drop (i + 1)).take ((wordL op).length + 1) == wordL op ++ [32]) with
    | true =>
      rw [hc, if_pos rfl] at h2
      exact h2 op rfl
    | false =>
      rw [hc, if_neg (by decide)] at h1 h2
      have hok : okOp (op : Int) = true := by simp only [okOp, Bool.and_eq_true, decide_eq_true_eq]; omega
      have hwl := wordL_len (op : Int)
      have h77 : ∀ bx : List Box, ev cfg (.call 77 [S (bsT l), I ((i : Int) + 1), S (bsT (wordL op) ++ ⟨#[32]⟩)] bx) = some (.ret (B false) none) := fun bx => by
        have := at_ev l (wordL op ++ [32]) (i + 1) hi (by omega) (by simp; omega) bx
        rw [List.length_append, List.length_singleton, hc, ← c32] at this
        exact this
      have hst := r53_skip (bx := bx) (d := d) (i := (i : Int)) (op := (op : Int)) (l := bsT l) (decide_eq_true (by omega)) (wrap_lo (by omega) (by omega)) (wrap_lo (by omega) (by omega)) (fun bx => word_ev hok bx) (by rw [bsT_size]; show _ + 1 ≤ _; omega) h77
      exact ev_step cfg (hst.trans (ops_ev hmax hi bx out f (op + 1) (by omega) (by omega) h1 h2))

theorem num_suf {s : List UInt8} {n : Int} {r : List UInt8} (h : numQ s = some (n, r)) : s = digP s ++ r ∧ 0 ≤ n ∧ n ≤ 1099511627776 := by
  rw [numQ_dig] at h
  split at h
  · rename_i hc
    cases h
    refine ⟨(dig_app s).symm, dval_ge _ 0 (digP_all s) (Int.le_refl 0), ?_⟩
    simp only [Bool.and_eq_true, decide_eq_true_eq] at hc
    exact hc.2
  · cases h

theorem num_end {l : List UInt8} {i : Nat} (hi : i ≤ l.length) {n : Int} {r : List UInt8} (h : numQ (l.drop i) = some (n, r)) : ∃ j : Nat, j ≤ l.length ∧ r = l.drop j ∧ endN l r = (j : Int) := by
  have h1 := (num_suf h).1
  have hl : (l.drop i).length = (digP (l.drop i)).length + r.length := by
    conv => lhs; rw [h1]
    exact List.length_append ..
  rw [List.length_drop] at hl
  refine ⟨i + (digP (l.drop i)).length, by omega, ?_, by unfold endN; omega⟩
  rw [← List.drop_drop]
  have e : ∀ (s w : List UInt8), s = w ++ r → r = s.drop w.length := fun s w h => by rw [h, List.drop_left]
  exact e _ _ h1

theorem rread_ev {l : List UInt8} (hmax : l.length ≤ 21000) : ∀ (f : Nat) (d : Int), d + f = 25 → 0 ≤ d → RRdEv (readQ f) l d
  | 0, d, hd, h0, i, hi => ⟨0, 0, .nil, -1, fun bx => ev_step cfg (f53_deep (decide_eq_true (by omega))), rfl, rfl⟩
  | f + 1, d, hd, h0, i, hi => by
    have hd' : decide (d > 24) = false := decide_eq_false (by omega)
    have hw1 : IntKind.wrap .i64 ((i : Int) + 1) = (i : Int) + 1 := wrap_lo (by omega) (by omega)
    by_cases h36 : ∃ w, l.drop i = 36 :: w
    · obtain ⟨w, hw⟩ := h36
      obtain ⟨_, hw2, hlt⟩ := drop_cons hw
      have hn := fun bx => num_ev (l := l) (by omega) (i + 1) hlt bx
      have hrq : readQ (f + 1) (36 :: w) = leafQ (36 :: w) := by rw [readQ, if_neg (by decide)]
      rw [hw, hrq]
      rw [hw2] at hn
      unfold leafQ
      simp only [if_true]
      cases hq : numQ w with
      | none =>
        rw [hq] at hn
        exact ⟨0, 0, .nil, -1, fun bx => ev_step cfg (f53_var (K := .nil) (a := 0) (n := 0) (e := -1) hd' (fun bx => at_yes hw (by omega) bx) hw1 rfl hn), rfl, rfl⟩
      | some p =>
        obtain ⟨n, r⟩ := p
        rw [hq] at hn
        obtain ⟨_, n1, n2⟩ := num_suf hq
        obtain ⟨j, hj, rfl, he⟩ := num_end (l := l) (i := i + 1) hlt (by rw [hw2]; exact hq)
        have h := fun bx => ev_step cfg (f53_var (bx := bx) (K := .nil) (a := 1) (n := n) (e := endN l (l.drop j)) hd' (fun bx => at_yes hw (by omega) bx) hw1 rfl hn)
        rw [he, decide_eq_false (by omega : ¬ (j : Int) < 0), Bool.false_or] at h
        simp only
        by_cases h3 : n > 3
        · rw [decide_eq_true h3, if_pos rfl] at h
          rw [if_pos h3]
          exact ⟨0, 0, .nil, -1, h, rfl, rfl⟩
        · rw [decide_eq_false h3, if_neg (by decide)] at h
          rw [if_neg h3]
          exact ⟨2, n, .nil, j, h, rfl, ⟨j, hj, rfl, rfl⟩, isT_leaf (by unfold i64; omega) (by unfold i64; omega)⟩
    · have hno36 : ∀ xs, l.drop i ≠ 36 :: xs := fun xs e => h36 ⟨xs, e⟩
      by_cases h40 : ∃ w, l.drop i = 40 :: w
      · obtain ⟨w, hw⟩ := h40
        obtain ⟨_, hw2, hlt⟩ := drop_cons hw
        have hrq : readQ (f + 1) (40 :: w) = opQ (readQ f) w := by rw [readQ, if_pos rfl]
        have h40' := fun bx => at_yes hw (by omega) bx
        have h36' := fun bx => at_no hno36 hi (by omega) bx
        rw [hw, hrq]
        unfold opQ
        cases hf : findQ w 12 3 with
        | none =>
          refine ⟨0, 0, .nil, -1, fun bx => ev_step cfg (f53_exit hd' h36' h40' ?_), rfl, rfl⟩
          exact ops_ev hmax hlt bx _ 12 3 rfl (Nat.le_refl 3) (fun _ => rfl) (fun op' h => by rw [hw2, hf] at h; cases h)
        | some op =>
          obtain ⟨a1, a2, r1, hs⟩ := findQ_ok hf
          have hok : okOp (op : Int) = true := by simp only [okOp, Bool.and_eq_true, decide_eq_true_eq]; omega
          have har : arity op ≤ 2 := by unfold arity; split <;> omega
          have h79 : ∀ bx : List Box, ev cfg (.call 79 [I (op : Int)] bx) = some (.ret (I ((arity op : Nat) : Int)) none) := fun bx => by
            have h := ev_step cfg (f79 (op := (op : Int)) (bx := bx))
            have e : (if (op : Int) < 3 then (0 : Int) else if (op : Int) < 5 then 1 else 2) = ((arity op : Nat) : Int) := by
              unfold arity
              rw [if_neg (by omega)]
              split <;> rfl
            rw [e] at h
            exact h
          have hwl := wordL_len (op : Int)
          have hlen : (l.drop (i + 1)).length = (wordL op).length + (1 + r1.length) := by rw [hw2, hs, List.length_append, List.length_cons]; omega
          rw [List.length_drop] at hlen
          have hsplit : w.drop (wordL op).length = l.drop (i + 1 + (wordL op).length) := by rw [← hw2, List.drop_drop]
          have h77 : ∀ bx : List Box, ev cfg (.call 77 [S (bsT l), I ((i : Int) + 1), S (bsT (wordL op) ++ ⟨#[32]⟩)] bx) = some (.ret (B true) none) := fun bx => by
            have := at_ev l (wordL op ++ [32]) (i + 1) hlt (by omega) (by simp; omega) bx
            have e : ((l.drop (i + 1)).take (wordL op ++ [32]).length == wordL op ++ [32]) = true := by
              have e2 : wordL op ++ 32 :: r1 = (wordL op ++ [32]) ++ r1 := by simp
              rw [hw2, hs, e2, List.take_left, beq_self_eq_true]
            rw [e, ← c32] at this
            exact this
          have hws : IntKind.wrap .i64 ((i : Int) + 1 + ((bsT (wordL op)).size : Int)) = ((i + 1 + (wordL op).length : Nat) : Int) := by rw [bsT_size, wrap_lo (by omega) (by omega)]; rfl
          have hsz : (bsT (wordL op)).size + (⟨#[32]⟩ : ByteArray).size ≤ 9223372036854775807 := by rw [bsT_size]; show _ + 1 ≤ _; omega
          have hle : decide ((op : Int) ≤ 14) = true := decide_eq_true (by omega)
          have ops := fun (bx : List Box) (out : Out) (h : ev cfg (.loop 53 11 ⟨(S (bsT l) :: I (i : Int) :: I d :: .dead :: .dead :: .dead :: .ptr bx.length 0 :: .dead :: I (op : Int) :: .dead :: .dead :: .dead :: .dead :: .dead :: .dead :: .dead :: .dead :: .dead :: .dead :: .dead :: .dead :: .dead :: .dead :: .dead :: .dead :: .dead :: .dead :: .dead :: .dead :: .dead :: .dead :: .dead :: .dead :: .dead :: .dead :: .dead :: .dead :: .dead :: .dead :: .dead :: .dead :: .dead :: .dead :: .dead :: .dead :: .dead :: .dead :: .dead :: .dead :: .dead :: .dead :: .dead :: .dead :: .dead :: .dead :: .dead :: .dead :: .dead :: .dead :: .dead :: .dead :: .dead :: .dead :: .dead :: .dead :: .dead :: .dead :: .dead :: .dead :: .dead :: .dead :: .dead :: .dead :: .dead :: .dead :: .dead :: .dead :: .dead :: .dead :: .dead :: .dead :: .dead :: .dead :: .dead :: .dead :: .dead :: .dead :: .dead :: .dead :: .dead :: .dead :: .dead :: .dead :: .dead :: .dead :: .dead :: .dead :: .dead :: .dead :: .dead :: .dead :: .dead :: .dead :: .dead :: .dead :: .dead :: .dead :: []), bx ++ [[I 0, I 0, .dat .nil, I 0]], bx.length, none, false⟩) = some out) =>
            ops_ev hmax hlt (d := d) bx out 12 3 rfl (Nat.le_refl 3) (fun h => by rw [hw2, hf] at h; cases h) (fun op' h' => by rw [hw2, hf] at h'; cases h'; exact h)
          simp only
          rw [hsplit]
          rcases rkids_ev (l := l) (rd := readQ f) (d := d) (op := (op : Int)) (k := arity op) hmax h0 (by omega) har (rread_ev hmax f (d + 1) (by omega) (by omega)) h79 (arity op) 0 (i + 1 + (wordL op).length) [] [] (by omega) rfl (by rw [IsT.IsTs]) (by omega) with ⟨h1, a, n, K, e, hK, he, h2⟩ | ⟨ks, q, rows', hq, h1, h2, h3, h4⟩
          · rw [h1]
            refine ⟨a, n, K, e, fun bx => ?_, hK, he⟩
            obtain ⟨q, T, hT, h2⟩ := h2 bx
            refine ev_step cfg (f53_ret (o := 0) hd' h36' h40' hK (ops bx _ (ev_step cfg (r53_fail (j := 0) hle hw1 (fun bx => word_ev hok bx) hsz h77 hws hK hT h2))))
          · rw [h1]
            simp only
            rw [List.nil_append] at h3
            rw [xof_own (rows := rows') (by rw [h2]; exact arity_pos op)] at h4
            have hT : IsT (.mk op 0 ks) op 0 (.sl 3 rows') := by
              rw [IsT]
              refine ⟨rfl, rfl, by unfold i64; omega, by unfold i64; omega, rows', isS_sl 3 rows', h3, ?_⟩
              rw [← isTs_len h3, h2]; omega
            by_cases h41 : ∃ s3, l.drop q = 41 :: s3
            · obtain ⟨s3, hs3⟩ := h41
              obtain ⟨_, hs4, hlq⟩ := drop_cons hs3
              refine ⟨op, 0, .sl 3 rows', (q : Int) + 1, fun bx => ?_, rfl, ?_⟩
              · have := r53_done (bx := bx) (b := true) hle hw1 (fun bx => word_ev hok bx) hsz h77 hws (h4 bx) (fun bx => at_yes hs3 (by omega) bx) (fun _ => wrap_lo (by omega) (by omega))
                exact ev_step cfg (f53_ret (o := 0) hd' h36' h40' rfl (ops bx _ (ev_step cfg this)))
              · rw [hs3]
                simp only [if_true]
                exact ⟨⟨q + 1, hlq, hs4.symm, rfl⟩, hT⟩
            · have hno : ∀ xs, l.drop q ≠ 41 :: xs := fun xs e => h41 ⟨xs, e⟩
              refine ⟨0, 0, .nil, -1, fun bx => ?_, rfl, ?_⟩
              · have := r53_done (bx := bx) (b := false) hle hw1 (fun bx => word_ev hok bx) hsz h77 hws (h4 bx) (fun bx => at_no hno hq (by omega) bx) (fun h => by cases h)
                exact ev_step cfg (f53_ret (o := 0) hd' h36' h40' rfl (ops bx _ (ev_step cfg this)))
              · cases hd3 : l.drop q with
                | nil => rfl
                | cons x s3 =>
                  have : ¬ x = 41 := fun e => hno s3 (by rw [hd3, e])
                  simp only [if_neg this]
                  rfl
      · have hno40 : ∀ xs, l.drop i ≠ 40 :: xs := fun xs e => h40 ⟨xs, e⟩
        have hn := fun bx => num_ev (l := l) (by omega) i hi bx
        have hrq : readQ (f + 1) (l.drop i) = leafQ (l.drop i) := by
          cases hd : l.drop i with
          | nil => rfl
          | cons x xs =>
            have : ¬ x = 40 := fun e => hno40 xs (by rw [hd, e])
            rw [readQ, if_neg this]
        have hlq : leafQ (l.drop i) = match numQ (l.drop i) with | some (n, r) => some (.mk 1 n [], r) | none => none := by
          unfold leafQ
          cases hd : l.drop i with
          | nil => rfl
          | cons x xs =>
            have : ¬ x = 36 := fun e => hno36 xs (by rw [hd, e])
            simp only [if_neg this]
            cases numQ (x :: xs) <;> rfl
        rw [hrq, hlq]
        cases hq : numQ (l.drop i) with
        | none =>
          rw [hq] at hn
          exact ⟨0, 0, .nil, -1, fun bx => ev_step cfg (f53_num hd' (fun bx => at_no hno36 hi (by omega) bx) (fun bx => at_no hno40 hi (by omega) bx) rfl hn), rfl, rfl⟩
        | some p =>
          obtain ⟨n, r⟩ := p
          rw [hq] at hn
          obtain ⟨_, n1, n2⟩ := num_suf hq
          obtain ⟨j, hj, rfl, he⟩ := num_end hi hq
          refine ⟨1, n, .nil, j, fun bx => ?_, rfl, ⟨j, hj, rfl, rfl⟩, isT_leaf (by unfold i64; omega) (by unfold i64; omega)⟩
          have := ev_step cfg (f53_num (bx := bx) hd' (fun bx => at_no hno36 hi (by omega) bx) (fun bx => at_no hno40 hi (by omega) bx) rfl hn)
          rw [he] at this
          exact this
end Go.Proofs.YtgppmcpbphgnnaaDoor
