/- The two parsers in plain lists, and that they agree. No condition. -/
import Derived.Test.YtgppmcpbphgnnaaDoorT11
set_option linter.unusedSimpArgs false
set_option linter.unusedVariables false
set_option linter.unusedSectionVars false
namespace Go.Proofs.YtgppmcpbphgnnaaDoor
open Go Go.Vx
set_option maxRecDepth 10000

def stop (x : UInt8) : Bool := x == 32 || x == 40 || x == 41
def isDig (x : UInt8) : Bool := decide (48 ≤ x.toNat) && decide (x.toNat ≤ 57)
def cutN : List UInt8 → Nat
  | [] => 0
  | x :: xs => if stop x = true then 0 else cutN xs + 1
def cutW (l : List UInt8) : List UInt8 := l.take (cutN l)
def cutR (l : List UInt8) : List UInt8 := l.drop (cutN l)

theorem cut_app (l : List UInt8) : cutW l ++ cutR l = l := List.take_append_drop ..
theorem cutN_le : ∀ l : List UInt8, cutN l ≤ l.length
  | [] => Nat.le_refl 0
  | x :: xs => by
    rw [cutN]
    have := cutN_le xs
    split <;> simp <;> omega
theorem cutW_ns : ∀ (l : List UInt8), ∀ x ∈ cutW l, stop x = false
  | [], x, h => by simp [cutW] at h
  | y :: ys, x, h => by
    unfold cutW at h
    rw [cutN] at h
    split at h
    · simp at h
    · rename_i hy
      rw [List.take_succ_cons] at h
      rcases List.mem_cons.1 h with rfl | h
      · simpa using hy
      · exact cutW_ns ys x h
theorem cut_of : ∀ (w r : List UInt8), (∀ x ∈ w, stop x = false) → (∀ x xs, r = x :: xs → stop x = true) → cutW (w ++ r) = w ∧ cutR (w ++ r) = r
  | [], r, _, hr => by
    cases r with
    | nil => exact ⟨rfl, rfl⟩
    | cons x xs =>
      have := hr x xs rfl
      simp [cutW, cutR, cutN, this]
  | y :: ys, r, hw, hr => by
    have hy := hw y (List.mem_cons_self ..)
    have ih := cut_of ys r (fun x hx => hw x (List.mem_cons_of_mem _ hx)) hr
    simp only [cutW, cutR] at ih ⊢
    rw [List.cons_append, cutN, hy]
    simp only [Bool.false_eq_true, if_false, List.take_succ_cons, List.drop_succ_cons]
    exact ⟨by rw [ih.1], ih.2⟩
theorem cutR_stop : ∀ (l : List UInt8) x xs, cutR l = x :: xs → stop x = true
  | [], x, xs, h => by simp [cutR, cutN] at h
  | y :: ys, x, xs, h => by
    unfold cutR at h
    rw [cutN] at h
    split at h
    · rename_i hy
      simp only [List.drop_zero, List.cons.injEq] at h
      rw [← h.1]; exact hy
    · rw [List.drop_succ_cons] at h
      exact cutR_stop ys x xs h

/-! ### numbers -/
def valL (n : Int) : List UInt8 → Option Int
  | [] => some n
  | x :: xs => if isDig x = true then valL (10 * n + ((x.toNat : Int) - 48)) xs else none
def numBad (l : List UInt8) : Bool := l.isEmpty || (decide (l.length > 1) && (l.head? == some 48)) || decide (l.length > 13)
def numP (l : List UInt8) : Option Int := if numBad l = true then none else match valL 0 l with
  | some n => if n ≤ 1099511627776 then some n else none
  | none => none

/-- the reference's: s0 is the first sign, k: is it behind the first? -/
def numG (s0 : Option UInt8) (n : Int) (k : Bool) : List UInt8 → Option (Int × List UInt8)
  | [] => if (!k || decide (n > 1099511627776)) = true then none else some (n, [])
  | x :: xs => if isDig x = true then (if (decide (n > 1099511627776) || (k && s0 == some 48)) = true then none else numG s0 (10 * n + (x.toNat : Int) - 48) true xs)
      else if (!k || decide (n > 1099511627776)) = true then none else some (n, x :: xs)
def numQ (l : List UInt8) : Option (Int × List UInt8) := numG l.head? 0 false l

theorem dig_ns {x : UInt8} (h : isDig x = true) : stop x = false := by
  simp only [isDig, Bool.and_eq_true, decide_eq_true_eq] at h
  simp only [stop, Bool.or_eq_false_iff, beq_eq_false_iff_ne, ne_eq]
  refine ⟨⟨?_, ?_⟩, ?_⟩ <;> (rintro rfl; revert h; decide)

/-- the digits at a text's head -/
def digP : List UInt8 → List UInt8
  | [] => []
  | x :: xs => if isDig x = true then x :: digP xs else []
def digS : List UInt8 → List UInt8
  | [] => []
  | x :: xs => if isDig x = true then digS xs else x :: xs
theorem dig_app : ∀ l, digP l ++ digS l = l
  | [] => rfl
  | x :: xs => by
    rw [digP, digS]
    split
    · rw [List.cons_append, dig_app xs]
    · rfl
theorem digP_all : ∀ l, ∀ x ∈ digP l, isDig x = true
  | [], x, h => by cases h
  | y :: ys, x, h => by
    rw [digP] at h
    split at h
    · rename_i hy
      rcases List.mem_cons.1 h with rfl | h
      · exact hy
      · exact digP_all ys x h
    · cases h
theorem digS_no : ∀ l x xs, digS l = x :: xs → isDig x = false
  | [], x, xs, h => by cases h
  | y :: ys, x, xs, h => by
    rw [digS] at h
    split at h
    · exact digS_no ys x xs h
    · rename_i hy
      simp only [List.cons.injEq] at h
      rw [← h.1]; simpa using hy

/-- the digits' value -/
def dval (n : Int) : List UInt8 → Int
  | [] => n
  | x :: xs => dval (10 * n + ((x.toNat : Int) - 48)) xs
theorem valL_dval : ∀ (l : List UInt8) (n : Int), (∀ x ∈ l, isDig x = true) → valL n l = some (dval n l)
  | [], _, _ => rfl
  | x :: xs, n, h => by
    rw [valL, dval, if_pos (h x (List.mem_cons_self ..))]
    exact valL_dval xs _ fun y hy => h y (List.mem_cons_of_mem _ hy)
theorem dval_ge : ∀ (l : List UInt8) (n : Int), (∀ x ∈ l, isDig x = true) → 0 ≤ n → n ≤ dval n l
  | [], n, _, _ => Int.le_refl n
  | x :: xs, n, h, hn => by
    have hx := h x (List.mem_cons_self ..)
    simp only [isDig, Bool.and_eq_true, decide_eq_true_eq] at hx
    rw [dval]
    have := dval_ge xs (10 * n + ((x.toNat : Int) - 48)) (fun y hy => h y (List.mem_cons_of_mem _ hy)) (by omega)
    omega
theorem dval_big : ∀ (l : List UInt8) (n : Int), (∀ x ∈ l, isDig x = true) → 0 ≤ n → n * 10 ^ l.length ≤ dval n l
  | [], n, _, _ => by simp [dval]
  | x :: xs, n, h, hn => by
    have hx := h x (List.mem_cons_self ..)
    simp only [isDig, Bool.and_eq_true, decide_eq_true_eq] at hx
    rw [dval, List.length_cons]
    have := dval_big xs (10 * n + ((x.toNat : Int) - 48)) (fun y hy => h y (List.mem_cons_of_mem _ hy)) (by omega)
    refine Int.le_trans ?_ this
    rw [Int.pow_succ]
    have h2 : n * (10 ^ xs.length * 10) = (10 * n) * 10 ^ xs.length := by
      rw [Int.mul_comm (10 ^ xs.length) 10, ← Int.mul_assoc, Int.mul_comm n 10]
    rw [h2]
    exact Int.mul_le_mul_of_nonneg_right (by omega) (Int.pow_nonneg (by omega))

theorem numG_dig : ∀ (l t : List UInt8) (s0 : Option UInt8) (n : Int) (k : Bool), (∀ x ∈ l, isDig x = true) → (∀ x xs, t = x :: xs → isDig x = false) → 0 ≤ n →
    numG s0 n k (l ++ t) = if ((k || !l.isEmpty) && !((k && !l.isEmpty || decide (l.length > 1)) && s0 == some 48) && decide (dval n l ≤ 1099511627776)) = true then some (dval n l, t) else none
  | [], t, s0, n, k, _, ht, hn => by
    rw [List.nil_append]
    have key : numG s0 n k t = if (!k || decide (n > 1099511627776)) = true then none else some (n, t) := by
      cases t with
      | nil => rfl
      | cons x xs => rw [numG, ht x xs rfl]; rfl
    rw [key]
    simp only [dval, List.isEmpty_nil, Bool.not_true, Bool.or_false, List.length_nil, gt_iff_lt, Nat.not_lt_zero, decide_false, Bool.and_false, Bool.false_and, Bool.not_false, Bool.and_true]
    cases k with
    | false => simp
    | true =>
      by_cases h : n ≤ 1099511627776
      · have h1 : ¬ n > 1099511627776 := by omega
        simp [h]
      · have h1 : n > 1099511627776 := by omega
        simp [h, h1]
  | x :: xs, t, s0, n, k, hl, ht, hn => by
    have hx := hl x (List.mem_cons_self ..)
    have hx' := hx
    simp only [isDig, Bool.and_eq_true, decide_eq_true_eq] at hx'
    have hxs := fun y hy => hl y (List.mem_cons_of_mem _ hy)
    rw [List.cons_append, numG, if_pos hx, dval]
    have e : 10 * n + (x.toNat : Int) - 48 = 10 * n + ((x.toNat : Int) - 48) := by omega
    rw [e]
    have ih := numG_dig xs t s0 (10 * n + ((x.toNat : Int) - 48)) true hxs ht (by omega)
    have hge := dval_ge xs (10 * n + ((x.toNat : Int) - 48)) hxs (by omega)
    rw [ih]
    by_cases h1 : n > 1099511627776
    · have h2 : ¬ dval (10 * n + ((x.toNat : Int) - 48)) xs ≤ 1099511627776 := by omega
      simp [h1, h2]
    · cases hs : (s0 == some 48) <;> cases k <;> cases xs <;> simp [h1]

theorem isDig_48 (x : UInt8) (h : isDig x = true) (h2 : ¬ x = 48) : 1 ≤ (x.toNat : Int) - 48 := by
  simp only [isDig, Bool.and_eq_true, decide_eq_true_eq] at h
  have : x.toNat ≠ 48 := by
    intro e
    apply h2
    exact UInt8.toNat_inj.1 e
  omega

theorem pow13 (k : Nat) (h : 13 ≤ k) : (10 : Int) ^ 13 ≤ 10 ^ k := by
  induction h with
  | refl => exact Int.le_refl _
  | step _ ih => rw [Int.pow_succ]; omega

/-- what numbers are, of digits alone -/
theorem numP_dig (l : List UInt8) (h : ∀ x ∈ l, isDig x = true) : numP l = if (!l.isEmpty && !(decide (l.length > 1) && l.head? == some 48) && decide (dval 0 l ≤ 1099511627776)) = true then some (dval 0 l) else none := by
  unfold numP
  rw [valL_dval l 0 h]
  by_cases hb : numBad l = true
  · rw [if_pos hb]
    unfold numBad at hb
    cases l with
    | nil => rfl
    | cons x xs =>
      by_cases hlong : (x :: xs).length > 13
      · have hh : ¬ ((!(x :: xs).isEmpty && !(decide ((x :: xs).length > 1) && (x :: xs).head? == some 48) && decide (dval 0 (x :: xs) ≤ 1099511627776)) = true) := by
          intro hh
          simp only [Bool.and_eq_true, decide_eq_true_eq, Bool.not_eq_true'] at hh
          obtain ⟨⟨_, h2⟩, h3⟩ := hh
          have hx48 : ¬ x = 48 := by
            rintro rfl
            have : decide ((48 :: xs : List UInt8).length > 1) = true := decide_eq_true (by omega)
            rw [this] at h2
            simp at h2
          have h1 := isDig_48 x (h x (List.mem_cons_self ..)) hx48
          rw [dval] at h3
          have := dval_big xs (10 * 0 + ((x.toNat : Int) - 48)) (fun y hy => h y (List.mem_cons_of_mem _ hy)) (by omega)
          have hp : (10 : Int) ^ 13 ≤ 10 ^ xs.length := pow13 _ (by simp at hlong; omega)
          have h4 : (10 : Int) ^ xs.length ≤ (10 * 0 + ((x.toNat : Int) - 48)) * 10 ^ xs.length := by
            have := Int.mul_le_mul_of_nonneg_right (show (1 : Int) ≤ 10 * 0 + ((x.toNat : Int) - 48) by omega) (Int.pow_nonneg (by omega) : (0 : Int) ≤ 10 ^ xs.length)
            rwa [Int.one_mul] at this
          have : (10 : Int) ^ 13 = 10000000000000 := by decide
          omega
        rw [if_neg hh]
      · have : decide ((x :: xs).length > 13) = false := decide_eq_false hlong
        rw [this, Bool.or_false] at hb
        simp only [List.isEmpty_cons, Bool.false_or] at hb
        rw [hb]
        simp
  · rw [if_neg hb]
    rw [Bool.not_eq_true] at hb
    unfold numBad at hb
    simp only [Bool.or_eq_false_iff] at hb
    obtain ⟨⟨h1, h2⟩, h3⟩ := hb
    rw [h1, h2]
    simp only [Bool.not_false, Bool.true_and, decide_eq_true_eq]

theorem numQ_dig (l : List UInt8) : numQ l = if (!(digP l).isEmpty && !(decide ((digP l).length > 1) && l.head? == some 48) && decide (dval 0 (digP l) ≤ 1099511627776)) = true then some (dval 0 (digP l), digS l) else none := by
  unfold numQ
  have := numG_dig (digP l) (digS l) l.head? 0 false (digP_all l) (digS_no l) (Int.le_refl 0)
  rw [dig_app] at this
  rw [this]
  simp only [Bool.false_or, Bool.false_and]

theorem digP_head (l : List UInt8) (h : (digP l).isEmpty = false) : (digP l).head? = l.head? := by
  cases l with
  | nil => rfl
  | cons x xs =>
    rw [digP] at h ⊢
    split at h
    · rename_i hx; rw [if_pos hx]; rfl
    · cases h

theorem numP_nondig (l : List UInt8) (h : ∃ x ∈ l, isDig x = false) : numP l = none := by
  have hv : ∀ (l : List UInt8) (n : Int), (∃ x ∈ l, isDig x = false) → valL n l = none := by
    intro l
    induction l with
    | nil => intro n ⟨x, hx, _⟩; cases hx
    | cons y ys ih =>
      intro n ⟨x, hx, hd⟩
      rw [valL]
      split
      · rename_i hy
        rcases List.mem_cons.1 hx with rfl | hx
        · rw [hd] at hy; cases hy
        · exact ih _ ⟨x, hx, hd⟩
      · rfl
  unfold numP
  split
  · rfl
  · rw [hv l 0 h]

def bad (r : List UInt8) : Prop := ∃ x xs, r = x :: xs ∧ stop x = false

theorem num_rel (s : List UInt8) : (∀ n, numP (cutW s) = some n → numQ s = some (n, cutR s)) ∧ ∀ n r, numQ s = some (n, r) → (numP (cutW s) = some n ∧ r = cutR s) ∨ bad r := by
  have hq := numQ_dig s
  by_cases hs : ∀ x xs, digS s = x :: xs → stop x = true
  · have hc := cut_of (digP s) (digS s) (fun x hx => dig_ns (digP_all s x hx)) hs
    rw [dig_app] at hc
    have hp := numP_dig (digP s) (digP_all s)
    have e : (!(digP s).isEmpty && !(decide ((digP s).length > 1) && (digP s).head? == some 48) && decide (dval 0 (digP s) ≤ 1099511627776)) = (!(digP s).isEmpty && !(decide ((digP s).length > 1) && s.head? == some 48) && decide (dval 0 (digP s) ≤ 1099511627776)) := by
      cases h : (digP s).isEmpty with
      | true => rfl
      | false => rw [digP_head s h]
    rw [e] at hp
    rw [hc.1, hc.2]
    by_cases hcnd : (!(digP s).isEmpty && !(decide ((digP s).length > 1) && s.head? == some 48) && decide (dval 0 (digP s) ≤ 1099511627776)) = true
    · rw [if_pos hcnd] at hp hq
      rw [hp, hq]
      exact ⟨fun n h => (by cases h; rfl), fun n r h => (by cases h; exact .inl ⟨rfl, rfl⟩)⟩
    · rw [if_neg hcnd] at hp hq
      rw [hp, hq]
      exact ⟨fun n h => (by cases h), fun n r h => (by cases h)⟩
  · have ⟨x, xs, hx, hst⟩ : ∃ x xs, digS s = x :: xs ∧ stop x = false := by
      cases hd : digS s with
      | nil => exact absurd (fun x xs h => by rw [hd] at h; cases h) hs
      | cons x xs =>
        refine ⟨x, xs, rfl, ?_⟩
        cases hst : stop x with
        | false => rfl
        | true => exact absurd (fun y ys h => by rw [hd] at h; cases h; exact hst) hs
    have hnd := digS_no s x xs hx
    have hnone : numP (cutW s) = none := by
      refine numP_nondig _ ⟨x, ?_, hnd⟩
      have : s = (digP s ++ [x]) ++ xs := by
        have := dig_app s
        rw [hx] at this
        rw [List.append_assoc]; exact this.symm
      rw [this]
      have key : ∀ (w t : List UInt8), (∀ y ∈ w, stop y = false) → ∀ y ∈ w, y ∈ cutW (w ++ t) := by
        intro w
        induction w with
        | nil => intro t _ y hy; cases hy
        | cons z zs ih =>
          intro t hw y hy
          have hz := hw z (List.mem_cons_self ..)
          have ih' := ih t (fun y hy => hw y (List.mem_cons_of_mem _ hy))
          unfold cutW
          rw [List.cons_append, cutN, hz]
          simp only [Bool.false_eq_true, if_false, List.take_succ_cons]
          rcases List.mem_cons.1 hy with rfl | hy
          · exact List.mem_cons_self ..
          · exact List.mem_cons_of_mem _ (ih' y hy)
      refine key (digP s ++ [x]) xs (fun y hy => ?_) x (by simp)
      rcases List.mem_append.1 hy with hy | hy
      · exact dig_ns (digP_all s y hy)
      · simp only [List.mem_singleton] at hy; subst hy; exact hst
    rw [hnone]
    refine ⟨fun n h => (by cases h), fun n r h => .inr ?_⟩
    rw [hq] at h
    split at h
    · cases h
      exact ⟨x, xs, hx, hst⟩
    · cases h

end Go.Proofs.YtgppmcpbphgnnaaDoor
