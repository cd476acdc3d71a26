/- The two parsers in plain lists agree; there and back. No condition. -/
import Derived.Test.YtgppmcpbphgnnaaDoorT20
set_option linter.unusedSimpArgs false
set_option linter.unusedVariables false
set_option linter.unusedSectionVars false
namespace Go.Proofs.YtgppmcpbphgnnaaDoor
open Go Go.Vx
set_option maxRecDepth 10000

abbrev Rdr := List UInt8 → Option (Trm × List UInt8)

def kidsG (rd : Rdr) : Nat → List UInt8 → Option (List Trm × List UInt8)
  | 0, s => some ([], s)
  | k + 1, s => match s with
    | x :: s1 => if x = 32 then match rd s1 with
        | some (t, s2) => match kidsG rd k s2 with
          | some (ts, s3) => some (t :: ts, s3)
          | none => none
        | none => none
      else none
    | [] => none

/-- the table's texts -/
def tx (i : Nat) : List UInt8 := if i < 3 then [] else wordL i
def findW (w : List UInt8) : Nat → Nat → Option Nat
  | 0, _ => none
  | f + 1, i => if ((tx i == w) && !(w == [])) = true then some i else findW w f (i + 1)

def opP (rd : Rdr) (s1 : List UInt8) : Option (Trm × List UInt8) :=
  match findW (cutW s1) 15 0 with
  | some op => match kidsG rd (arity op) (cutR s1) with
    | some (ks, s2) => match s2 with
      | x :: s3 => if x = 41 then some (.mk op 0 ks, s3) else none
      | [] => none
    | none => none
  | none => none

def leafP (s : List UInt8) : Option (Trm × List UInt8) :=
  match cutW s with
  | x :: w => if x = 36 then match numP w with
      | some n => if n < 4 then some (.mk 2 n [], cutR s) else none
      | none => none
    else match numP (x :: w) with
      | some n => some (.mk 1 n [], cutR s)
      | none => none
  | [] => none

def readP : Nat → Rdr
  | 0, _ => none
  | f + 1, s => match s with
    | x :: s1 => if x = 40 then opP (readP f) s1 else leafP (x :: s1)
    | [] => none

/-- the reference's -/
def findQ (s : List UInt8) : Nat → Nat → Option Nat
  | 0, _ => none
  | f + 1, i => if (s.take ((wordL i).length + 1) == wordL i ++ [32]) = true then some i else findQ s f (i + 1)

def opQ (rd : Rdr) (s1 : List UInt8) : Option (Trm × List UInt8) :=
  match findQ s1 12 3 with
  | some op => match kidsG rd (arity op) (s1.drop (wordL op).length) with
    | some (ks, s2) => match s2 with
      | x :: s3 => if x = 41 then some (.mk op 0 ks, s3) else none
      | [] => none
    | none => none
  | none => none

def leafQ (s : List UInt8) : Option (Trm × List UInt8) :=
  match s with
  | x :: w => if x = 36 then match numQ w with
      | some (n, r) => if n > 3 then none else some (.mk 2 n [], r)
      | none => none
    else match numQ (x :: w) with
      | some (n, r) => some (.mk 1 n [], r)
      | none => none
  | [] => none

def readQ : Nat → Rdr
  | 0, _ => none
  | f + 1, s => match s with
    | x :: s1 => if x = 40 then opQ (readQ f) s1 else leafQ (x :: s1)
    | [] => none

/-! ### they agree -/
def Agrees (p q : Rdr) : Prop := ∀ s, (∀ t r, p s = some (t, r) → q s = some (t, r)) ∧ ∀ t r, q s = some (t, r) → p s = some (t, r) ∨ bad r

theorem not_bad_32 {r : List UInt8} {s : List UInt8} (h : bad r) (e : r = 32 :: s) : False := by
  obtain ⟨x, xs, h1, h2⟩ := h
  rw [e] at h1
  cases h1
  revert h2; decide
theorem not_bad_41 {r : List UInt8} {s : List UInt8} (h : bad r) (e : r = 41 :: s) : False := by
  obtain ⟨x, xs, h1, h2⟩ := h
  rw [e] at h1
  cases h1
  revert h2; decide

theorem kidsG_some {rd : Rdr} {k : Nat} {s : List UInt8} {ts : List Trm} {r : List UInt8} (h : kidsG rd (k + 1) s = some (ts, r)) :
    ∃ s1 t s2 ts', s = 32 :: s1 ∧ rd s1 = some (t, s2) ∧ kidsG rd k s2 = some (ts', r) ∧ ts = t :: ts' := by
  cases s with
  | nil => cases h
  | cons x s1 =>
    simp only [kidsG] at h
    split at h
    · rename_i hx
      subst hx
      split at h
      · rename_i t s2 h2
        split at h
        · rename_i ts' s3 h3
          cases h
          exact ⟨s1, t, s2, ts', rfl, h2, h3, rfl⟩
        · cases h
      · cases h
    · cases h
theorem kidsG_mk {rd : Rdr} {k : Nat} {s1 s2 r : List UInt8} {t : Trm} {ts : List Trm} (h1 : rd s1 = some (t, s2)) (h2 : kidsG rd k s2 = some (ts, r)) : kidsG rd (k + 1) (32 :: s1) = some (t :: ts, r) := by
  simp only [kidsG, if_true, h1, h2]

theorem kids_rel {p q : Rdr} (h : Agrees p q) : ∀ (k : Nat) (s : List UInt8), (∀ ts r, kidsG p k s = some (ts, r) → kidsG q k s = some (ts, r)) ∧ ∀ ts r, kidsG q k s = some (ts, r) → kidsG p k s = some (ts, r) ∨ (bad r ∧ 0 < k)
  | 0, s => ⟨fun _ _ h => h, fun _ _ h => .inl h⟩
  | k + 1, s => by
    refine ⟨fun ts r hk => ?_, fun ts r hk => ?_⟩
    · obtain ⟨s1, t, s2, ts', rfl, h1, h2, rfl⟩ := kidsG_some hk
      exact kidsG_mk ((h s1).1 t s2 h1) ((kids_rel h k s2).1 ts' r h2)
    · obtain ⟨s1, t, s2, ts', rfl, h1, h2, rfl⟩ := kidsG_some hk
      rcases (h s1).2 t s2 h1 with h3 | h3
      · rcases (kids_rel h k s2).2 ts' r h2 with h4 | h4
        · exact .inl (kidsG_mk h3 h4)
        · exact .inr ⟨h4.1, Nat.succ_pos k⟩
      · cases k with
        | zero =>
          cases h2
          exact .inr ⟨h3, Nat.succ_pos 0⟩
        | succ k =>
          obtain ⟨s1', _, _, _, e, _⟩ := kidsG_some h2
          exact (not_bad_32 h3 e).elim

theorem wordL_ns (op : Int) : ∀ x ∈ wordL op, stop x = false := by
  unfold wordL
  repeat' split
  all_goals decide

theorem findW_ok {w : List UInt8} {i : Nat} (h : findW w 15 0 = some i) : 3 ≤ i ∧ i ≤ 14 ∧ wordL i = w := by
  have key : ∀ (f j : Nat), findW w f j = some i → j ≤ i ∧ i < j + f ∧ ((tx i == w) && !(w == [])) = true := by
    intro f
    induction f with
    | zero => intro j h; cases h
    | succ f ih =>
      intro j h
      rw [findW] at h
      split at h
      · rename_i hc
        cases h
        exact ⟨Nat.le_refl _, by omega, hc⟩
      · obtain ⟨h1, h2, h3⟩ := ih (j + 1) h
        exact ⟨by omega, by omega, h3⟩
  obtain ⟨h1, h2, h3⟩ := key 15 0 h
  simp only [Bool.and_eq_true, beq_iff_eq, Bool.not_eq_true', beq_eq_false_iff_ne, ne_eq] at h3
  obtain ⟨h3, h4⟩ := h3
  unfold tx at h3
  split at h3
  · exact absurd h3.symm h4
  · exact ⟨by omega, by omega, h3⟩

theorem find_word {i : Nat} (h1 : 3 ≤ i) (h2 : i ≤ 14) : findW (wordL i) 15 0 = some i := by
  have : i = 3 ∨ i = 4 ∨ i = 5 ∨ i = 6 ∨ i = 7 ∨ i = 8 ∨ i = 9 ∨ i = 10 ∨ i = 11 ∨ i = 12 ∨ i = 13 ∨ i = 14 := by omega
  rcases this with rfl | rfl | rfl | rfl | rfl | rfl | rfl | rfl | rfl | rfl | rfl | rfl <;> decide

theorem findQ_ok {s : List UInt8} {i : Nat} (h : findQ s 12 3 = some i) : 3 ≤ i ∧ i ≤ 14 ∧ ∃ r, s = wordL i ++ 32 :: r := by
  have key : ∀ (f j : Nat), findQ s f j = some i → j ≤ i ∧ i < j + f ∧ (s.take ((wordL i).length + 1) == wordL i ++ [32]) = true := by
    intro f
    induction f with
    | zero => intro j h; cases h
    | succ f ih =>
      intro j h
      rw [findQ] at h
      split at h
      · rename_i hc
        cases h
        exact ⟨Nat.le_refl _, by omega, hc⟩
      · obtain ⟨h1, h2, h3⟩ := ih (j + 1) h
        exact ⟨by omega, by omega, h3⟩
  obtain ⟨h1, h2, h3⟩ := key 12 3 h
  refine ⟨h1, by omega, s.drop ((wordL i).length + 1), ?_⟩
  rw [beq_iff_eq] at h3
  have := List.take_append_drop ((wordL i).length + 1) s
  rw [h3, List.append_assoc] at this
  exact this.symm

theorem take_word (i : Nat) (w r : List UInt8) (h : ∀ x ∈ w, stop x = false) : ((w ++ 32 :: r).take ((wordL i).length + 1) == wordL i ++ [32]) = true → wordL i = w := by
  intro h1
  rw [beq_iff_eq] at h1
  have hs : w ++ 32 :: r = wordL i ++ 32 :: ((w ++ 32 :: r).drop ((wordL i).length + 1)) := by
    have := List.take_append_drop ((wordL i).length + 1) (w ++ 32 :: r)
    rw [h1, List.append_assoc] at this
    exact this.symm
  have c1 := cut_of w (32 :: r) h (fun x xs e => by cases e; decide)
  have c2 := cut_of (wordL i) (32 :: ((w ++ 32 :: r).drop ((wordL i).length + 1))) (wordL_ns i) (fun x xs e => by cases e; decide)
  rw [← hs] at c2
  rw [← c2.1, c1.1]

theorem findQ_word {i : Nat} (h1 : 3 ≤ i) (h2 : i ≤ 14) (r : List UInt8) : findQ (wordL i ++ 32 :: r) 12 3 = some i := by
  have hself : ((wordL i ++ 32 :: r).take ((wordL i).length + 1) == wordL i ++ [32]) = true := by
    have e : wordL i ++ 32 :: r = (wordL i ++ [32]) ++ r := by simp
    have l : (wordL i).length + 1 = (wordL i ++ [32]).length := by simp
    rw [e, l, List.take_left, beq_self_eq_true]
  have key : ∀ (f j : Nat), j ≤ i → i < j + f → 3 ≤ j → findQ (wordL i ++ 32 :: r) f j = some i := by
    intro f
    induction f with
    | zero => intro j h1 h2; omega
    | succ f ih =>
      intro j hj1 hj2 hj3
      rw [findQ]
      by_cases e : j = i
      · subst e
        rw [if_pos hself]
      · have hne : ¬ ((wordL i ++ 32 :: r).take ((wordL j).length + 1) == wordL j ++ [32]) = true := by
          intro h
          have := take_word j (wordL i) r (wordL_ns i) h
          have a1 := find_word (i := i) h1 h2
          have a2 := find_word (i := j) hj3 (by omega)
          rw [this] at a2
          rw [a1] at a2
          cases a2
          exact e rfl
        rw [if_neg hne]
        exact ih (j + 1) (by omega) (by omega) (by omega)
  exact key 12 3 h1 (by omega) (Nat.le_refl 3)

theorem arity_pos (op : Int) : 0 < arity op := by unfold arity; split <;> omega

theorem op_some {rd : Rdr} {s1 : List UInt8} {t : Trm} {r : List UInt8} (h : opP rd s1 = some (t, r)) : ∃ op ks, findW (cutW s1) 15 0 = some op ∧ kidsG rd (arity op) (cutR s1) = some (ks, 41 :: r) ∧ t = .mk op 0 ks := by
  unfold opP at h
  split at h
  · rename_i op h1
    split at h
    · rename_i ks s2 h2
      split at h
      · rename_i x s3
        split at h
        · rename_i hx
          subst hx
          cases h
          exact ⟨op, ks, h1, h2, rfl⟩
        · cases h
      · cases h
    · cases h
  · cases h
theorem opQ_some {rd : Rdr} {s1 : List UInt8} {t : Trm} {r : List UInt8} (h : opQ rd s1 = some (t, r)) : ∃ op ks, findQ s1 12 3 = some op ∧ kidsG rd (arity op) (s1.drop (wordL op).length) = some (ks, 41 :: r) ∧ t = .mk op 0 ks := by
  unfold opQ at h
  split at h
  · rename_i op h1
    split at h
    · rename_i ks s2 h2
      split at h
      · rename_i x s3
        split at h
        · rename_i hx
          subst hx
          cases h
          exact ⟨op, ks, h1, h2, rfl⟩
        · cases h
      · cases h
    · cases h
  · cases h

theorem op_rel {p q : Rdr} (h : Agrees p q) : Agrees (opP p) (opQ q) := by
  intro s
  refine ⟨fun t r hp => ?_, fun t r hq => ?_⟩
  · obtain ⟨op, ks, h1, h2, rfl⟩ := op_some hp
    obtain ⟨a1, a2, a3⟩ := findW_ok h1
    have ha := arity_pos op
    obtain ⟨k, hk⟩ : ∃ k, arity op = k + 1 := ⟨arity op - 1, by omega⟩
    have h2' := h2
    rw [hk] at h2'
    obtain ⟨s1, _, _, _, e, _⟩ := kidsG_some h2'
    have es : s = wordL op ++ 32 :: s1 := by
      have := cut_app s
      rw [e, ← a3] at this
      exact this.symm
    have hf := findQ_word (i := op) a1 a2 s1
    rw [← es] at hf
    have hd : s.drop (wordL op).length = cutR s := by rw [es, List.drop_left, ← es, e]
    unfold opQ
    simp only [hf, hd, (kids_rel h (arity op) (cutR s)).1 _ _ h2, if_true]
  · obtain ⟨op, ks, h1, h2, rfl⟩ := opQ_some hq
    obtain ⟨a1, a2, r1, es⟩ := findQ_ok h1
    have hc := cut_of (wordL op) (32 :: r1) (wordL_ns op) (fun x xs e => by cases e; decide)
    rw [← es] at hc
    have hd : s.drop (wordL op).length = cutR s := by rw [hc.2, es, List.drop_left]
    rw [hd] at h2
    rcases (kids_rel h (arity op) (cutR s)).2 _ _ h2 with h3 | h3
    · left
      unfold opP
      simp only [hc.1, find_word a1 a2, h3, if_true]
    · exact (not_bad_41 h3.1 rfl).elim

theorem leaf_rel (x : UInt8) (s : List UInt8) (hx : ¬ x = 40) : (∀ t r, leafP (x :: s) = some (t, r) → leafQ (x :: s) = some (t, r)) ∧ ∀ t r, leafQ (x :: s) = some (t, r) → leafP (x :: s) = some (t, r) ∨ bad r := by
  by_cases h36 : x = 36
  · subst h36
    have hc : cutW (36 :: s) = 36 :: cutW s ∧ cutR (36 :: s) = cutR s := by
      have : stop 36 = false := by decide
      simp [cutW, cutR, cutN, this]
    obtain ⟨n1, n2⟩ := num_rel s
    unfold leafP leafQ
    rw [hc.1, hc.2]
    simp only [if_true]
    refine ⟨fun t r h => ?_, fun t r h => ?_⟩
    · split at h
      · rename_i n hn
        split at h
        · rename_i h4
          cases h
          simp only [n1 n hn]
          rw [if_neg (by omega)]
        · cases h
      · cases h
    · split at h
      · rename_i n r' hn
        split at h
        · cases h
        · rename_i h4
          cases h
          rcases n2 n r hn with ⟨h5, h6⟩ | h5
          · left
            simp only [h5]
            rw [if_pos (by omega), h6]
          · exact .inr h5
      · cases h
  · obtain ⟨n1, n2⟩ := num_rel (x :: s)
    by_cases hst : stop x = true
    · have hc : cutW (x :: s) = [] := by simp [cutW, cutN, hst]
      have hnq : numQ (x :: s) = none := by
        have hnd : isDig x = false := by
          cases hd : isDig x with
          | false => rfl
          | true => rw [dig_ns hd] at hst; cases hst
        rw [numQ_dig, digP, hnd]
        simp
      unfold leafP leafQ
      rw [hc]
      simp only [if_neg h36, hnq]
      exact ⟨fun t r h => (by cases h), fun t r h => (by cases h)⟩
    · have hst' : stop x = false := by simpa using hst
      have hc : ∃ w, cutW (x :: s) = x :: w := by
        refine ⟨cutW s, ?_⟩
        simp [cutW, cutN, hst']
      obtain ⟨w, hw⟩ := hc
      unfold leafP leafQ
      rw [hw] at n1 n2 ⊢
      simp only [if_neg h36]
      refine ⟨fun t r h => ?_, fun t r h => ?_⟩
      · split at h
        · rename_i n hn
          cases h
          simp only [n1 n hn]
        · cases h
      · split at h
        · rename_i n r' hn
          cases h
          rcases n2 n r hn with ⟨h5, h6⟩ | h5
          · left
            simp only [h5]
            rw [h6]
          · exact .inr h5
        · cases h

theorem read_rel : ∀ f : Nat, Agrees (readP f) (readQ f)
  | 0 => fun s => ⟨fun t r h => (by cases h), fun t r h => (by cases h)⟩
  | f + 1 => by
    intro s
    cases s with
    | nil => exact ⟨fun t r h => (by cases h), fun t r h => (by cases h)⟩
    | cons x s1 =>
      simp only [readP, readQ]
      by_cases hx : x = 40
      · rw [if_pos hx, if_pos hx]
        exact op_rel (read_rel f) s1
      · rw [if_neg hx, if_neg hx]
        exact leaf_rel x s1 hx

/-! ### there and back -/
theorem numP_some {l : List UInt8} {n : Int} (h : numP l = some n) : 0 ≤ n ∧ n ≤ 1099511627776 ∧ l = digL n.toNat := by
  have hall : ∀ x ∈ l, isDig x = true := by
    intro x hx
    cases hd : isDig x with
    | true => rfl
    | false => rw [numP_nondig l ⟨x, hx, hd⟩] at h; cases h
  rw [numP_dig l hall] at h
  split at h
  · rename_i hc
    cases h
    simp only [Bool.and_eq_true, Bool.not_eq_true', decide_eq_true_eq] at hc
    obtain ⟨⟨h1, h2⟩, h3⟩ := hc
    refine ⟨dval_ge l 0 hall (Int.le_refl 0), h3, ?_⟩
    have snoc : ∀ (l : List UInt8) (n : Int) (y : UInt8), dval n (l ++ [y]) = 10 * dval n l + ((y.toNat : Int) - 48) := by
      intro l
      induction l with
      | nil => intro n y; rfl
      | cons x xs ih => intro n y; rw [List.cons_append, dval, dval, ih]
    have dch : ∀ y : UInt8, isDig y = true → UInt8.ofNat (48 + (y.toNat - 48)) = y := by
      intro y hy
      simp only [isDig, Bool.and_eq_true, decide_eq_true_eq] at hy
      have : 48 + (y.toNat - 48) = y.toNat := by omega
      rw [this]; simp
    have main : ∀ (m : Nat) (l : List UInt8), l.length = m → (∀ x ∈ l, isDig x = true) → l.isEmpty = false → (decide (l.length > 1) && l.head? == some 48) = false → l = digL (dval 0 l).toNat := by
      intro m
      induction m with
      | zero => intro l hl _ he _; rw [List.eq_nil_of_length_eq_zero hl] at he; cases he
      | succ m ih =>
        intro l hl hd he hz
        have hne : l ≠ [] := by rintro rfl; cases he
        have hsp := (List.dropLast_concat_getLast hne).symm
        have hlast := hd _ (List.getLast_mem hne)
        have hlast' := hlast
        simp only [isDig, Bool.and_eq_true, decide_eq_true_eq] at hlast'
        have hd2 : ∀ x ∈ l.dropLast, isDig x = true := fun x hx => hd x (List.dropLast_subset l hx)
        by_cases hm : m = 0
        · subst hm
          obtain ⟨y, rfl⟩ := List.length_eq_one_iff.1 hl
          have hy := hd y (by simp)
          have hy' := hy
          simp only [isDig, Bool.and_eq_true, decide_eq_true_eq] at hy'
          have e : (dval 0 [y]).toNat = y.toNat - 48 := by simp only [dval]; omega
          rw [e, digL, if_pos (by omega), dch y hy]
        · have hdl : l.dropLast.length = m := by rw [List.length_dropLast, hl]; rfl
          have hdne : l.dropLast.isEmpty = false := by
            cases hd3 : l.dropLast with
            | nil => rw [hd3] at hdl; simp at hdl; exact absurd hdl.symm hm
            | cons => rfl
          have hhead : l.dropLast.head? = l.head? := by
            cases l with
            | nil => cases he
            | cons x xs =>
              cases xs with
              | nil => simp at hl; exact absurd hl hm
              | cons y ys => rfl
          have hn48 : (l.head? == some 48) = false := by
            have : decide (l.length > 1) = true := decide_eq_true (by omega)
            rw [this, Bool.true_and] at hz
            exact hz
          have ih' := ih l.dropLast hdl hd2 hdne (by rw [hhead, hn48, Bool.and_false])
          have hv : dval 0 l = 10 * dval 0 l.dropLast + (((l.getLast hne).toNat : Int) - 48) := by
            conv => lhs; rw [hsp]
            exact snoc ..
          have hpos : 1 ≤ dval 0 l.dropLast := by
            cases hc3 : l.dropLast with
            | nil => rw [hc3] at hdne; cases hdne
            | cons x xs =>
              have hx48 : ¬ x = 48 := by
                rintro rfl
                rw [hc3] at hhead
                rw [← hhead] at hn48
                simp at hn48
              have hx1 := isDig_48 x (hd2 x (by rw [hc3]; simp)) hx48
              rw [dval]
              have := dval_ge xs (10 * 0 + ((x.toNat : Int) - 48)) (fun y hy => hd2 y (by rw [hc3]; exact List.mem_cons_of_mem _ hy)) (by omega)
              omega
          have e1 : (dval 0 l).toNat / 10 = (dval 0 l.dropLast).toNat := by omega
          have e2 : (dval 0 l).toNat % 10 = (l.getLast hne).toNat - 48 := by omega
          rw [digL, if_neg (by omega), e1, e2, ← ih', dch _ hlast]
          exact hsp
    exact main l.length l rfl hall h1 h2
  · cases h

theorem digL_dig : ∀ n : Nat, ∀ x ∈ digL n, isDig x = true := by
  intro n
  induction n using Nat.strongRecOn with
  | ind n ih =>
    have one : ∀ d, d < 10 → isDig (UInt8.ofNat (48 + d)) = true := by decide
    intro x hx
    rw [digL] at hx
    split at hx
    · rename_i h
      simp only [List.mem_singleton] at hx
      subst hx; exact one n h
    · rcases List.mem_append.1 hx with hx | hx
      · exact ih (n / 10) (by omega) x hx
      · simp only [List.mem_singleton] at hx
        subst hx; exact one _ (Nat.mod_lt _ (by omega))

theorem numP_digL {n : Int} (h0 : 0 ≤ n) (h1 : n ≤ 1099511627776) : numP (digL n.toNat) = some n := by
  have snoc : ∀ (l : List UInt8) (n : Int) (y : UInt8), dval n (l ++ [y]) = 10 * dval n l + ((y.toNat : Int) - 48) := by
    intro l
    induction l with
    | nil => intro n y; rfl
    | cons x xs ih => intro n y; rw [List.cons_append, dval, dval, ih]
  have one : ∀ d, d < 10 → (UInt8.ofNat (48 + d)).toNat = 48 + d := by decide
  have val : ∀ m : Nat, dval 0 (digL m) = m := by
    intro m
    induction m using Nat.strongRecOn with
    | ind m ih =>
      rw [digL]
      split
      · rename_i h
        simp only [dval, one m h]; omega
      · rename_i h
        rw [snoc, ih (m / 10) (by omega), one _ (Nat.mod_lt _ (by omega))]
        omega
  have head : ∀ m : Nat, (decide ((digL m).length > 1) && (digL m).head? == some 48) = false ∧ (digL m).isEmpty = false ∧ (1 ≤ m → (digL m).head? ≠ some 48) := by
    intro m
    induction m using Nat.strongRecOn with
    | ind m ih =>
      rw [digL]
      split
      · rename_i h
        refine ⟨by simp, rfl, fun h1 h2 => ?_⟩
        simp only [List.head?_cons, Option.some.injEq] at h2
        have := congrArg UInt8.toNat h2
        rw [one m h] at this
        have e : (48 : UInt8).toNat = 48 := rfl
        omega
      · rename_i h
        obtain ⟨i1, i2, i3⟩ := ih (m / 10) (by omega)
        have i3' := i3 (by omega)
        have hh : (digL (m / 10) ++ [UInt8.ofNat (48 + m % 10)]).head? = (digL (m / 10)).head? := by
          cases hd : digL (m / 10) with
          | nil => rw [hd] at i2; cases i2
          | cons => rfl
        rw [hh]
        refine ⟨?_, by simp, fun _ => i3'⟩
        have : ((digL (m / 10)).head? == some 48) = false := by simpa using i3'
        rw [this, Bool.and_false]
  obtain ⟨a1, a2, _⟩ := head n.toNat
  rw [numP_dig _ (digL_dig _), val, a1, a2]
  have e : ((n.toNat : Nat) : Int) = n := Int.toNat_of_nonneg h0
  rw [e]
  simp [h1]

theorem stop_tail {r : List UInt8} (h : ∀ x xs, r = x :: xs → stop x = true) (w : List UInt8) (hw : ∀ x ∈ w, stop x = false) : cutW (w ++ r) = w ∧ cutR (w ++ r) = r := cut_of w r hw h

theorem depGo_mono : ∀ (bs : List Trm) (m m' : Int), m ≤ m' → depT.go m bs ≤ depT.go m' bs
  | [], m, m', h => by rw [depT.go, depT.go]; exact h
  | b :: bs, m, m', h => by
    rw [depT.go, depT.go]
    refine depGo_mono bs _ _ ?_
    split <;> split <;> omega
theorem depGo_ge : ∀ (bs : List Trm) (m : Int), m ≤ depT.go m bs
  | [], m => by rw [depT.go]; exact Int.le_refl _
  | b :: bs, m => by
    rw [depT.go]
    have := depGo_ge bs (if m < depT b then depT b else m)
    split at this <;> split <;> omega
theorem depGo_all : ∀ (bs : List Trm) (m : Int), ∀ b ∈ bs, depT b ≤ depT.go m bs
  | [], m, b, h => by cases h
  | c :: bs, m, b, h => by
    rw [depT.go]
    rcases List.mem_cons.1 h with rfl | h
    · have := depGo_ge bs (if m < depT b then depT b else m)
      split at this <;> split <;> omega
    · exact depGo_all bs _ b h
theorem depGo_le : ∀ (bs : List Trm) (m f : Int), m ≤ f → depT.go 0 bs ≤ f → depT.go m bs ≤ f
  | [], m, f, h, _ => by rw [depT.go]; exact h
  | b :: bs, m, f, h, h2 => by
    rw [depT.go] at h2 ⊢
    have hb := depGo_ge bs (if (0 : Int) < depT b then depT b else 0)
    have := (depT_le b).1
    rw [if_pos (by omega)] at h2 hb
    have h3 : depT.go 0 bs ≤ f := Int.le_trans (depGo_mono bs 0 (depT b) (by omega)) h2
    exact depGo_le bs _ f (by split <;> omega) h3

theorem text_read : ∀ (b : Trm) (f : Nat) (r : List UInt8), shapT b = true → depT b ≤ f → (∀ x xs, r = x :: xs → stop x = true) → readP f (textT b ++ r) = some (b, r)
  | .mk op n ks, f, r, hs, hd, hr => by
    have hdp := (depT_le (.mk op n ks)).1
    obtain ⟨f, rfl⟩ : ∃ f', f = f' + 1 := ⟨f - 1, by omega⟩
    have hn := shap_num hs
    have hdl := digL_dig n.toNat
    have hns : ∀ x ∈ digL n.toNat, stop x = false := fun x hx => dig_ns (hdl x hx)
    have hs' := hs
    rw [shapT, Bool.and_eq_true] at hs
    rw [depT] at hd
    by_cases e1 : op = 1
    · subst e1
      have hl : ks = [] := by have := hs.1; rw [nodeOk_1] at this; simp at this; exact this.1.1
      subst hl
      rw [textT, if_pos rfl]
      obtain ⟨c1, c2⟩ := cut_of _ r hns hr
      cases hd1 : digL n.toNat with
      | nil =>
        have : digL n.toNat ≠ [] := by unfold digL; split <;> simp
        exact absurd hd1 this
      | cons x xs =>
        have hx := hdl x (by rw [hd1]; simp)
        have h40 : ¬ x = 40 := by rintro rfl; revert hx; decide
        have h36 : ¬ x = 36 := by rintro rfl; revert hx; decide
        rw [hd1] at c1 c2
        rw [List.cons_append] at c1 c2 ⊢
        rw [readP, if_neg h40]
        unfold leafP
        rw [c1, c2]
        simp only [if_neg h36, ← hd1, numP_digL hn.1 hn.2]
    · by_cases e2 : op = 2
      · subst e2
        have h2 := hs.1
        rw [nodeOk_2] at h2
        simp at h2
        have hl : ks = [] := h2.1.1
        subst hl
        rw [textT, if_neg (by decide), if_pos rfl, List.cons_append, readP, if_neg (by decide)]
        have hns' : ∀ x ∈ (36 :: digL n.toNat), stop x = false := by
          intro x hx
          rcases List.mem_cons.1 hx with rfl | hx
          · decide
          · exact hns x hx
        obtain ⟨c1, c2⟩ := cut_of (36 :: digL n.toNat) r hns' hr
        rw [List.cons_append] at c1 c2
        unfold leafP
        rw [c1, c2]
        simp only [if_true, numP_digL hn.1 hn.2]
        rw [if_pos h2.2]
      · obtain ⟨hok, h0, har⟩ := node_op hs.1 e1 e2
        subst h0
        have hop : ∃ i : Nat, (i : Int) = op ∧ 3 ≤ i ∧ i ≤ 14 := by
          simp only [okOp, Bool.and_eq_true, decide_eq_true_eq] at hok
          exact ⟨op.toNat, by omega, by omega, by omega⟩
        obtain ⟨i, rfl, hi1, hi2⟩ := hop
        rw [textT, if_neg e1, if_neg e2]
        have e : (40 :: wordL (i : Int)) ++ textT.go ks ++ [41] ++ r = 40 :: (wordL (i : Int) ++ (textT.go ks ++ (41 :: r))) := by simp
        rw [e, readP, if_pos rfl]
        have hkne : 0 < ks.length := by rw [har]; exact arity_pos _
        have hst : ∀ x xs, textT.go ks ++ (41 :: r) = x :: xs → stop x = true := by
          intro x xs h
          cases ks with
          | nil => simp at hkne
          | cons b bs => rw [textT.go] at h; simp at h; rw [← h.1]; decide
        obtain ⟨c1, c2⟩ := cut_of (wordL (i : Int)) (textT.go ks ++ (41 :: r)) (wordL_ns _) hst
        unfold opP
        rw [c1, c2]
        have hk := go ks f (41 :: r) hs.2 (by omega) (fun x xs e => by cases e; decide)
        rw [har] at hk
        simp only [find_word hi1 hi2, hk, if_true]
where
  go : ∀ (bs : List Trm) (f : Nat) (r : List UInt8), shapT.go bs = true → depT.go 0 bs ≤ f → (∀ x xs, r = x :: xs → stop x = true) → kidsG (readP f) bs.length (textT.go bs ++ r) = some (bs, r)
  | [], f, r, _, _, _ => by rw [textT.go]; rfl
  | b :: bs, f, r, hs, hd, hr => by
    rw [shapT.go, Bool.and_eq_true] at hs
    have hb := depGo_all (b :: bs) 0 b (List.mem_cons_self ..)
    have hbs : depT.go 0 bs ≤ depT.go 0 (b :: bs) := by
      rw [depT.go]
      exact depGo_mono bs 0 _ (by have := (depT_le b).1; split <;> omega)
    rw [textT.go]
    have e : 32 :: textT b ++ textT.go bs ++ r = 32 :: (textT b ++ (textT.go bs ++ r)) := by simp
    rw [e]
    have hst : ∀ x xs, textT.go bs ++ r = x :: xs → stop x = true := by
      intro x xs h
      cases bs with
      | nil => rw [textT.go] at h; exact hr x xs (by simpa using h)
      | cons c cs => rw [textT.go] at h; simp at h; rw [← h.1]; decide
    have h1 := text_read b f (textT.go bs ++ r) hs.1 (by omega) hst
    exact kidsG_mk h1 (go bs f r hs.2 (by omega) hr)

theorem read_text : ∀ (f : Nat) (s : List UInt8) (t : Trm) (r : List UInt8), readP f s = some (t, r) → s = textT t ++ r ∧ shapT t = true ∧ depT t ≤ f
  | 0, s, t, r, h => by cases h
  | f + 1, s, t, r, h => by
    cases s with
    | nil => cases h
    | cons x s1 =>
      rw [readP] at h
      by_cases hx : x = 40
      · subst hx
        rw [if_pos rfl] at h
        obtain ⟨op, ks, h1, h2, rfl⟩ := op_some h
        obtain ⟨a1, a2, a3⟩ := findW_ok h1
        obtain ⟨b1, b2, b3, b4⟩ := kids (read_text f) (arity op) (cutR s1) ks (41 :: r) h2
        have e1 : ¬ (op : Int) = 1 := by omega
        have e2 : ¬ (op : Int) = 2 := by omega
        have hok : okOp (op : Int) = true := by simp only [okOp, Bool.and_eq_true, decide_eq_true_eq]; omega
        refine ⟨?_, ?_, ?_⟩
        · rw [textT, if_neg e1, if_neg e2]
          have := cut_app s1
          rw [b1, ← a3] at this
          rw [← this]
          simp
        · rw [shapT, nodeOk, if_neg e1, if_neg e2, hok, b2, b4]
          simp
        · rw [depT]; omega
      · rw [if_neg hx] at h
        unfold leafP at h
        have hca := cut_app (x :: s1)
        split at h
        · rename_i y w hw
          have hxy : x = y := by
            rw [hw] at hca
            simp only [List.cons_append, List.cons.injEq] at hca
            exact hca.1.symm
          subst hxy
          have d1 : ∀ o m : Int, depT (.mk o m []) = 1 := fun o m => by rw [depT, depT.go]; rfl
          split at h
          · rename_i h36
            subst h36
            split at h
            · rename_i n hn
              split at h
              · rename_i h4
                cases h
                obtain ⟨n1, n2, n3⟩ := numP_some hn
                refine ⟨?_, ?_, ?_⟩
                · rw [textT, if_neg (by decide), if_pos rfl, ← n3]
                  rw [← hw]; exact hca.symm
                · rw [shapT, nodeOk_2, shapT.go]
                  simp; omega
                · rw [d1]; omega
              · cases h
            · cases h
          · split at h
            · rename_i n hn
              cases h
              obtain ⟨n1, n2, n3⟩ := numP_some hn
              refine ⟨?_, ?_, ?_⟩
              · rw [textT, if_pos rfl, ← n3, ← hw]
                exact hca.symm
              · rw [shapT, nodeOk_1, shapT.go]
                simp; omega
              · rw [d1]; omega
            · cases h
        · cases h
where
  kids {f : Nat} (ih : ∀ (s : List UInt8) (t : Trm) (r : List UInt8), readP f s = some (t, r) → s = textT t ++ r ∧ shapT t = true ∧ depT t ≤ f) : ∀ (k : Nat) (s : List UInt8) (ts : List Trm) (r : List UInt8), kidsG (readP f) k s = some (ts, r) →
      s = textT.go ts ++ r ∧ shapT.go ts = true ∧ depT.go 0 ts ≤ f ∧ ts.length = k
  | 0, s, ts, r, h => by
    cases h
    refine ⟨by rw [textT.go]; rfl, by rw [shapT.go], by rw [depT.go]; omega, rfl⟩
  | k + 1, s, ts, r, h => by
    obtain ⟨s1, t, s2, ts', rfl, h1, h2, rfl⟩ := kidsG_some h
    obtain ⟨a1, a2, a3⟩ := ih s1 t s2 h1
    obtain ⟨b1, b2, b3, b4⟩ := kids ih k s2 ts' r h2
    refine ⟨?_, by rw [shapT.go, a2, b2]; rfl, ?_, by rw [List.length_cons, b4]⟩
    · rw [textT.go, a1, b1]; simp
    · rw [depT.go]
      exact depGo_le ts' _ f (by split <;> omega) b3

end Go.Proofs.YtgppmcpbphgnnaaDoor
