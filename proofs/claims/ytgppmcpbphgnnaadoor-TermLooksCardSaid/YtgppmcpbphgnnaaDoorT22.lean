/- What the parsers' string functions answer. No condition. -/
import Derived.Test.YtgppmcpbphgnnaaDoorT13
import Derived.Test.YtgppmcpbphgnnaaDoorT14
import Derived.Test.YtgppmcpbphgnnaaDoorT21
import Derived.Laws.RangeString
import Derived.Laws.RangeAny
set_option linter.unusedSimpArgs false
set_option linter.unusedVariables false
set_option linter.unusedSectionVars false
namespace Go.Proofs.YtgppmcpbphgnnaaDoor
open Go Go.Vx
set_option maxRecDepth 10000

abbrev ch1 (x : UInt8) : ByteArray := ⟨#[x]⟩
theorem ch1_bs (x : UInt8) : S (ch1 x) = S (bsT [x]) := rfl

theorem cp_yes (x : UInt8) (l : List UInt8) (bx : List Box) : ev cfg (.call 72 [S (bsT (x :: l)), S (bsT [x])] bx) = some (.ret (.tup [S (bsT l), B true]) none) := by
  have h1 : ∀ bx : List Box, ev cfg (.call 99 [S (bsT (x :: l)), S (bsT [x])] bx) = some (.ret (B true) none) := fun bx => by
    rw [ev_step cfg (f99 (c1 := true) (by simp; omega))]
    simp
  have h2 : ∀ bx : List Box, ev cfg (.call 86 [S (bsT (x :: l)), S (bsT [x])] bx) = some (.ret (.tup [S (bsT l), B true]) none) := fun bx => by
    rw [ev_step cfg (f86_yes h1 (by simp))]
    simp
  exact ev_step cfg (f72 h2)
theorem cp_no (x : UInt8) (l : List UInt8) (h : ∀ xs, l ≠ x :: xs) (bx : List Box) : ev cfg (.call 72 [S (bsT l), S (bsT [x])] bx) = some (.ret (.tup [S (bsT l), B false]) none) := by
  have h1 : ∀ bx : List Box, ev cfg (.call 99 [S (bsT l), S (bsT [x])] bx) = some (.ret (B false) none) := fun bx => by
    cases l with
    | nil =>
      rw [ev_step cfg (f99 (c1 := false) (by simp))]
      rfl
    | cons y ys =>
      rw [ev_step cfg (f99 (c1 := true) (by simp; omega))]
      have : ¬ y = x := fun e => h ys (by rw [e])
      simp [this]
  exact ev_step cfg (f72 fun bx => ev_step cfg (f86_no h1))

/-! ### cut -/
theorem ne_int (x : UInt8) (k : Nat) (hk : k < 256) : (((x.toNat : Int) != (k : Int))) = !(x == UInt8.ofNat k) := by
  have e : (UInt8.ofNat k).toNat = k := by simp; omega
  cases hb : (x == UInt8.ofNat k) with
  | true =>
    have : x = UInt8.ofNat k := by simpa using hb
    subst this
    rw [e]; simp
  | false =>
    have hx : ¬ x = UInt8.ofNat k := by simpa using hb
    have : ¬ x.toNat = k := fun h => hx (UInt8.toNat_inj.1 (by rw [h, e]))
    simp
    omega
theorem stop_eq (x : UInt8) : (((x.toNat : Int) != 32) && ((x.toNat : Int) != 40) && ((x.toNat : Int) != 41)) = !stop x := by
  have h1 : (((x.toNat : Int) != 32)) = !(x == 32) := ne_int x 32 (by omega)
  have h2 : (((x.toNat : Int) != 40)) = !(x == 40) := ne_int x 40 (by omega)
  have h3 : (((x.toNat : Int) != 41)) = !(x == 41) := ne_int x 41 (by omega)
  rw [h1, h2, h3, stop]
  simp only [Bool.not_or]
theorem cut_loop {l : List UInt8} (hmax : l.length < 9223372036854775808) (bx : List Box) : ∀ (s : List UInt8) (i : Nat), l.drop i = s → i ≤ l.length →
    ev cfg (.loop 73 2 ⟨(S (bsT l) :: .dead :: .dead :: .dead :: I i :: .dead :: .dead :: .dead :: .dead :: .dead :: .dead :: .dead :: .dead :: .dead :: .dead :: .dead :: .dead :: .dead :: .dead :: .dead :: .dead :: .dead :: .dead :: .dead :: .dead :: .dead :: .dead :: .dead :: .dead :: .dead :: .dead :: .dead :: .dead :: .dead :: .dead :: []), bx, bx.length, none, false⟩) = some (.loop (.exit 0) ⟨(S (bsT l) :: .dead :: .dead :: .dead :: I ((i + cutN s : Nat) : Int) :: .dead :: .dead :: .dead :: .dead :: .dead :: .dead :: .dead :: .dead :: .dead :: .dead :: .dead :: .dead :: .dead :: .dead :: .dead :: .dead :: .dead :: .dead :: .dead :: .dead :: .dead :: .dead :: .dead :: .dead :: .dead :: .dead :: .dead :: .dead :: .dead :: .dead :: []), bx, bx.length, none, false⟩)
  | [], i, h, hi => by
    rw [cutN, Nat.add_zero]
    exact ev_step cfg (e73_end (by have := List.drop_eq_nil_iff.1 h; exact this))
  | x :: xs, i, h, hi => by
    obtain ⟨hget, hr, hlt⟩ := drop_cons h
    rw [cutN]
    have hs := stop_eq x
    cases hst : stop x with
    | true =>
      rw [if_pos rfl, Nat.add_zero]
      exact ev_step cfg (e73_stop hlt hget (by rw [hs, hst]; rfl))
    | false =>
      rw [if_neg (by decide)]
      rw [hst] at hs
      simp only [Bool.not_false, Bool.and_eq_true] at hs
      have := cut_loop hmax bx xs (i + 1) hr hlt
      have e : i + 1 + cutN xs = i + (cutN xs + 1) := by omega
      rw [e] at this
      exact ev_step cfg ((r73 hlt hget hmax hs.1.1 hs.1.2 hs.2).trans this)
theorem cut_ev (l : List UInt8) (hmax : l.length < 9223372036854775808) (bx : List Box) : ev cfg (.call 73 [S (bsT l)] bx) = some (.ret (.tup [S (bsT (cutW l)), S (bsT (cutR l))]) none) := by
  have := cut_loop hmax bx l 0 rfl (Nat.zero_le _)
  rw [Nat.zero_add] at this
  exact ev_step cfg (f73 (cutN_le l) this)

/-! ### number -/
theorem dec_at (l : List UInt8) (i : Nat) (x : UInt8) (h : l[i]? = some x) : (x.toNat < 128 → Utf8.decode (bsT l) i = (x.toNat, 1)) ∧ (128 ≤ x.toNat → 128 ≤ (Utf8.decode (bsT l) i).1) := by
  obtain ⟨hi, hx⟩ := List.getElem?_eq_some_iff.1 h
  have hi' : i < (bsT l).size := by rw [bsT_size]; exact hi
  have hg : (bsT l)[i]'hi' = x := hx
  refine ⟨fun hlt => ?_, fun hge => ?_⟩
  · have := decode_ascii (bsT l) i hi' (by rw [hg]; exact hlt)
    rw [hg] at this
    exact this
  · exact (decode_high (bsT l) i hi' (by rw [hg]; exact hge)).1

theorem wrap32 {v : Int} (h1 : 0 ≤ v) (h2 : v ≤ 9) : IntKind.wrap .i32 v = v := by
  have : v = 0 ∨ v = 1 ∨ v = 2 ∨ v = 3 ∨ v = 4 ∨ v = 5 ∨ v = 6 ∨ v = 7 ∨ v = 8 ∨ v = 9 := by omega
  rcases this with rfl | rfl | rfl | rfl | rfl | rfl | rfl | rfl | rfl | rfl <;> rfl
theorem num_loop {l : List UInt8} (bx : List Box) (hl : l.length ≤ 13) : ∀ (s : List UInt8) (i : Nat) (n : Int), l.drop i = s → i ≤ l.length → 0 ≤ n → n < 10 ^ i →
    ∃ v, ev cfg (.loop 76 5 ⟨(.dead :: .dead :: .dead :: .dead :: I n :: .dead :: .dead :: .dead :: .dead :: .dead :: .dead :: .dead :: .dead :: .dead :: .dead :: .dead :: .dead :: .dead :: .dead :: .dead :: .dead :: .dead :: .dead :: .dead :: .dead :: .siter (bsT l) i :: .dead :: .dead :: .dead :: .dead :: .dead :: .dead :: .dead :: .dead :: .dead :: .dead :: .dead :: .dead :: .dead :: .dead :: .dead :: .dead :: .dead :: .dead :: []), bx, bx.length, none, false⟩) =
      some (match (generalizing := false) valL n s with | some m => .loop (.exit 0) ⟨(.dead :: .dead :: .dead :: .dead :: I m :: .dead :: .dead :: .dead :: .dead :: .dead :: .dead :: .dead :: .dead :: .dead :: .dead :: .dead :: .dead :: .dead :: .dead :: .dead :: .dead :: .dead :: .dead :: .dead :: .dead :: .dead :: .dead :: .dead :: .dead :: .dead :: .dead :: .dead :: .dead :: .dead :: .dead :: .dead :: .dead :: .dead :: .dead :: .dead :: .dead :: .dead :: .dead :: .dead :: []), bx, bx.length, none, false⟩ | none => .loop .ret ⟨(.dead :: .dead :: I 0 :: B false :: v :: .dead :: .dead :: .dead :: .dead :: .dead :: .dead :: .dead :: .dead :: .dead :: .dead :: .dead :: .dead :: .dead :: .dead :: .dead :: .dead :: .dead :: .dead :: .dead :: .dead :: .dead :: .dead :: .dead :: .dead :: .dead :: .dead :: .dead :: .dead :: .dead :: .dead :: .dead :: .dead :: .dead :: .dead :: .dead :: .dead :: .dead :: .dead :: .dead :: []), bx, bx.length, none, false⟩)
  | [], i, n, h, hi, h0, hn => by
    refine ⟨I 0, ?_⟩
    have := List.drop_eq_nil_iff.1 h
    exact ev_step cfg (e76 (by simpa using this))
  | x :: xs, i, n, h, hi, h0, hn => by
    obtain ⟨hget, hr, hlt⟩ := drop_cons h
    obtain ⟨d1, d2⟩ := dec_at l i x hget
    have hlt' : decide (i < l.length) = true := decide_eq_true hlt
    rw [valL]
    cases hd : isDig x with
    | true =>
      have hx := hd
      simp only [isDig, Bool.and_eq_true, decide_eq_true_eq] at hx
      rw [if_pos rfl]
      have hb : (10 : Int) ^ i * 10 ≤ 10 ^ 13 := by
        rw [← Int.pow_succ]
        have : i + 1 ≤ 13 := by omega
        have h12 : i = 0 ∨ i = 1 ∨ i = 2 ∨ i = 3 ∨ i = 4 ∨ i = 5 ∨ i = 6 ∨ i = 7 ∨ i = 8 ∨ i = 9 ∨ i = 10 ∨ i = 11 ∨ i = 12 := by omega
        rcases h12 with rfl | rfl | rfl | rfl | rfl | rfl | rfl | rfl | rfl | rfl | rfl | rfl | rfl <;> decide
      have e13 : (10 : Int) ^ 13 = 10000000000000 := by decide
      rw [e13] at hb
      obtain ⟨v, hv⟩ := num_loop bx hl xs (i + 1) (10 * n + ((x.toNat : Int) - 48)) hr hlt (by omega) (by rw [Int.pow_succ]; omega)
      refine ⟨v, ?_⟩
      have hst := r76 (bx := bx) (n := n) hlt' (d1 (by omega)) (decide_eq_false (by omega)) (decide_eq_false (by omega)) (wrap_lo (by omega) (by omega)) (wrap32 (by omega) (by omega)) (wrap_lo (by omega) (by omega)) (wrap_lo (by omega) (by omega))
      exact ev_step cfg (hst.trans hv)
    | false =>
      refine ⟨I n, ?_⟩
      rw [if_neg (by decide)]
      by_cases h8 : x.toNat < 128
      · refine ev_step cfg (r76_bad (bx := bx) (n := n) hlt' (d1 h8) ?_)
        simp only [isDig, Bool.and_eq_false_iff, decide_eq_false_iff_not] at hd
        simp only [Bool.or_eq_true, decide_eq_true_eq]
        omega
      · obtain ⟨ch, wd, hdec⟩ : ∃ ch wd, Utf8.decode (bsT l) i = (ch, wd) := ⟨_, _, rfl⟩
        have := d2 (by omega)
        rw [hdec] at this
        simp only at this
        refine ev_step cfg (r76_bad (bx := bx) (n := n) hlt' hdec ?_)
        simp only [Bool.or_eq_true, decide_eq_true_eq]
        omega

theorem number_ev (l : List UInt8) (hmax : l.length < 9223372036854775808) : ∃ m : Int, (∀ bx : List Box, ev cfg (.call 76 [S (bsT l)] bx) = some (.ret (.tup [I m, B (numP l).isSome]) none)) ∧ ∀ n, numP l = some n → m = n := by
  cases l with
  | nil => exact ⟨0, fun bx => ev_step cfg f76_nil, fun n h => by cases h⟩
  | cons x xs =>
    have e0 : ((x :: xs) == ([] : List UInt8)) = false := rfl
    have eg : (x :: xs)[0]? = some x := rfl
    have eb : numBad (x :: xs) = ((decide ((((x :: xs).length : Nat) : Int) > 1) && ((x.toNat : Int) == 48)) || decide ((((x :: xs).length : Nat) : Int) > 13)) := by
      unfold numBad
      have h1 : decide ((x :: xs).length > 1) = decide ((((x :: xs).length : Nat) : Int) > 1) := decide_eq_decide.2 (by omega)
      have h2 : decide ((x :: xs).length > 13) = decide ((((x :: xs).length : Nat) : Int) > 13) := decide_eq_decide.2 (by omega)
      have h3 : ((x :: xs).head? == some 48) = ((x.toNat : Int) == 48) := by
        have : (((x.toNat : Int) != 48)) = !(x == 48) := ne_int x 48 (by omega)
        have e : (((x.toNat : Int)) != 48) = !(((x.toNat : Int)) == 48) := rfl
        rw [e] at this
        have := congrArg (!·) this
        simp only [Bool.not_not] at this
        rw [this]; rfl
      rw [h1, h2, h3]; rfl
    cases hb : numBad (x :: xs) with
    | true =>
      refine ⟨0, fun bx => ?_, fun n h => ?_⟩
      · have : (numP (x :: xs)).isSome = false := by unfold numP; rw [hb]; rfl
        rw [this]
        exact ev_step cfg (f76_bad e0 eg (by rw [← eb, hb]))
      · unfold numP at h; rw [hb] at h; cases h
    | false =>
      rw [hb] at eb
      have eb' := eb.symm
      rw [Bool.or_eq_false_iff] at eb'
      have hl : (x :: xs).length ≤ 13 := by
        have := eb'.2
        simp only [decide_eq_false_iff_not] at this
        omega
      have hp : numP (x :: xs) = match valL 0 (x :: xs) with | some n => if n ≤ 1099511627776 then some n else none | none => none := by unfold numP; rw [hb]; rfl
      have key := fun bx => num_loop (l := x :: xs) bx hl (x :: xs) 0 0 rfl (Nat.zero_le _) (Int.le_refl 0) (by decide)
      cases hv : valL 0 (x :: xs) with
      | none =>
        rw [hv] at hp
        refine ⟨0, fun bx => ?_, fun n h => by rw [hp] at h; cases h⟩
        obtain ⟨v, hk⟩ := key bx
        rw [hv] at hk
        rw [hp]
        have := f76_go (bx := bx) (v := v) (r := none) e0 eg eb'.1 eb'.2 hk
        exact ev_step cfg this
      | some m =>
        rw [hv] at hp
        refine ⟨m, fun bx => ?_, fun n h => ?_⟩
        · obtain ⟨v, hk⟩ := key bx
          rw [hv] at hk
          have := f76_go (bx := bx) (v := v) (r := some m) e0 eg eb'.1 eb'.2 hk
          rw [hp]
          have e : (if m ≤ 1099511627776 then some m else none).isSome = decide (m ≤ 1099511627776) := by by_cases h : m ≤ 1099511627776 <;> simp [h]
          simp only [e]
          exact ev_step cfg this
        · rw [hp] at h
          simp only at h
          split at h
          · cases h; rfl
          · cases h

/-! ### at, num -/
theorem at_ev (l p : List UInt8) (k : Nat) (hk : k ≤ l.length) (hmax : l.length < 1000000) (hp : p.length ≤ 100) (bx : List Box) : ev cfg (.call 77 [S (bsT l), I (k : Int), S (bsT p)] bx) = some (.ret (B ((l.drop k).take p.length == p)) none) := by
  have h := f77 (l := l) (p := p) (k := k) (bx := bx) (b := decide (((l.length : Int) - (k : Int)) ≥ (p.length : Int))) hk (wrap_lo (by omega) (by omega)) rfl (fun _ => by rw [wrap_lo (by omega) (by omega)]; omega)
  rw [ev_step cfg h]
  suffices e : (decide (((l.length : Int) - (k : Int)) ≥ (p.length : Int)) && ((l.drop k).take p.length == p)) = ((l.drop k).take p.length == p) by rw [e]
  by_cases hc : ((l.length : Int) - (k : Int)) ≥ (p.length : Int)
  · rw [decide_eq_true hc, Bool.true_and]
  · rw [decide_eq_false hc, Bool.false_and]
    have : ¬ (l.drop k).take p.length = p := by
      intro e
      have := congrArg List.length e
      simp at this
      omega
    simp [this]

def endN (l : List UInt8) (r : List UInt8) : Int := (l.length : Int) - (r.length : Int)

def agrN (l : List UInt8) : Option (Int × List UInt8) → List PV
  | some (m, r) => [I 1, I m, .dat .nil, I (endN l r)]
  | none => gBad

theorem dig_int (x : UInt8) : (decide ((x.toNat : Int) ≥ 48) && decide ((x.toNat : Int) ≤ 57)) = isDig x := by
  unfold isDig
  congr 1 <;> exact decide_eq_decide.2 (by omega)

theorem num_at_loop {l : List UInt8} (hmax : l.length < 1000000) (i : Nat) (bx : List Box) : ∀ (s : List UInt8) (k : Nat) (n : Int), l.drop k = s → i ≤ k → k ≤ l.length → 0 ≤ n → n ≤ 10995116277769 →
    ∃ (k' : Nat) (m : Int), (ev cfg (.loop 78 3 ⟨(S (bsT l) :: I (i : Int) :: .dead :: .dead :: .ptr bx.length 0 :: I n :: I (k : Int) :: .dead :: .dead :: .dead :: .dead :: .dead :: .dead :: .dead :: .dead :: .dead :: .dead :: .dead :: .dead :: .dead :: .dead :: .dead :: .dead :: .dead :: .dead :: .dead :: .dead :: .dead :: .dead :: .dead :: .dead :: .dead :: .dead :: .dead :: .dead :: .dead :: .dead :: .dead :: .dead :: .dead :: .dead :: .dead :: .dead :: .dead :: .dead :: .dead :: .dead :: .dead :: .dead :: .dead :: .dead :: .dead :: .dead :: .dead :: .dead :: .dead :: .dead :: .dead :: .dead :: .dead :: []), bx ++ [[I 0, I 0, .dat .nil, I 0]], bx.length, none, false⟩) =
          some (.loop (.exit 0) ⟨(.dead :: I (i : Int) :: .dead :: .dead :: .ptr bx.length 0 :: I m :: I (k' : Int) :: .dead :: .dead :: .dead :: .dead :: .dead :: .dead :: .dead :: .dead :: .dead :: .dead :: .dead :: .dead :: .dead :: .dead :: .dead :: .dead :: .dead :: .dead :: .dead :: .dead :: .dead :: .dead :: .dead :: .dead :: .dead :: .dead :: .dead :: .dead :: .dead :: .dead :: .dead :: .dead :: .dead :: .dead :: .dead :: .dead :: .dead :: .dead :: .dead :: .dead :: .dead :: .dead :: .dead :: .dead :: .dead :: .dead :: .dead :: .dead :: .dead :: .dead :: .dead :: .dead :: .dead :: []), bx ++ [[I 0, I 0, .dat .nil, I 0]], bx.length, none, false⟩) ∧
        numG (l.drop i).head? n (decide (i < k)) s = (if (((k' : Int) == (i : Int)) || decide (m > 1099511627776)) = true then none else some (m, l.drop k')) ∧ k' ≤ l.length) ∨
      (ev cfg (.loop 78 3 ⟨(S (bsT l) :: I (i : Int) :: .dead :: .dead :: .ptr bx.length 0 :: I n :: I (k : Int) :: .dead :: .dead :: .dead :: .dead :: .dead :: .dead :: .dead :: .dead :: .dead :: .dead :: .dead :: .dead :: .dead :: .dead :: .dead :: .dead :: .dead :: .dead :: .dead :: .dead :: .dead :: .dead :: .dead :: .dead :: .dead :: .dead :: .dead :: .dead :: .dead :: .dead :: .dead :: .dead :: .dead :: .dead :: .dead :: .dead :: .dead :: .dead :: .dead :: .dead :: .dead :: .dead :: .dead :: .dead :: .dead :: .dead :: .dead :: .dead :: .dead :: .dead :: .dead :: .dead :: .dead :: []), bx ++ [[I 0, I 0, .dat .nil, I 0]], bx.length, none, false⟩) =
          some (.loop .ret ⟨(.dead :: I (i : Int) :: .dead :: .dead :: .ptr bx.length 0 :: I m :: I (k' : Int) :: .dead :: .dead :: .dead :: .dead :: .dead :: .dead :: .dead :: .dead :: .dead :: .dead :: .dead :: .dead :: .dead :: .dead :: .dead :: .dead :: .dead :: .dead :: .dead :: .dead :: .dead :: .dead :: .dead :: .dead :: .dead :: .dead :: .dead :: .dead :: .dead :: .dead :: .dead :: .dead :: .dead :: .dead :: .dead :: .dead :: .dead :: .dead :: .dead :: .dead :: .dead :: .dead :: .dead :: .dead :: .dead :: .dead :: .dead :: .dead :: .dead :: .dead :: .dead :: .dead :: .dead :: []), bx ++ [gBad], bx.length, none, false⟩) ∧
        numG (l.drop i).head? n (decide (i < k)) s = none)
  | [], k, n, h, hik, hk, h0, hn => by
    have hlen := List.drop_eq_nil_iff.1 h
    refine ⟨k, n, .inl ⟨ev_step cfg (r78_stop _ (by simp [cellLt]) fun h => by omega), ?_, hk⟩⟩
    rw [numG, h]
    have e : (!decide (i < k)) = ((k : Int) == (i : Int)) := by
      by_cases hc : i < k
      · have : ¬ (k : Int) = i := by omega
        simp [hc, this]
      · have : k = i := by omega
        simp [this]
    rw [e]
  | x :: xs, k, n, h, hik, hk, h0, hn => by
    obtain ⟨hget, hr, hlt⟩ := drop_cons h
    have hd := dig_int x
    rw [numG]
    have e : (!decide (i < k)) = ((k : Int) == (i : Int)) := by
      by_cases hc : i < k
      · have : ¬ (k : Int) = i := by omega
        simp [hc, this]
      · have : k = i := by omega
        simp [this]
    cases hdx : isDig x with
    | false =>
      rw [hdx] at hd
      refine ⟨k, n, .inl ⟨ev_step cfg (r78_stop _ (by simp [cellLt]) fun _ => ⟨x, hget, hd⟩), ?_, hk⟩⟩
      rw [if_neg (by decide), e, h]
    | true =>
      rw [hdx, Bool.and_eq_true] at hd
      have hx := hdx
      simp only [isDig, Bool.and_eq_true, decide_eq_true_eq] at hx
      obtain ⟨y, hy⟩ : ∃ y, l[i]? = some y := ⟨l[i]'(by omega), List.getElem?_eq_getElem (by omega)⟩
      have hh : (l.drop i).head? = some y := by rw [List.head?_drop]; exact hy
      rw [if_pos rfl, hh]
      have ek : decide (i < k) = decide ((k : Int) > (i : Int)) := decide_eq_decide.2 (by omega)
      have ey : ((some y : Option UInt8) == some 48) = ((y.toNat : Int) == 48) := by
        have : (((y.toNat : Int) != 48)) = !(y == 48) := ne_int y 48 (by omega)
        have e : (((y.toNat : Int)) != 48) = !(((y.toNat : Int)) == 48) := rfl
        rw [e] at this
        have := congrArg (!·) this
        simp only [Bool.not_not] at this
        rw [this]; rfl
      rw [ek, ey]
      cases hbad : (decide (n > 1099511627776) || (decide ((k : Int) > (i : Int)) && ((y.toNat : Int) == 48))) with
      | true =>
        exact ⟨k, n, .inr ⟨ev_step cfg (r78_bad hlt hget hd.1 hd.2 hy hbad), rfl⟩⟩
      | false =>
        rw [Bool.or_eq_false_iff] at hbad
        have hn2 : n ≤ 1099511627776 := by
          have := hbad.1
          simp only [decide_eq_false_iff_not] at this
          omega
        have hst := r78_go (bx := bx) (i := i) [I 0, I 0, .dat .nil, I 0] (by simp [cellLt]) hlt (by omega) hget hd.1 hd.2 hbad.1 hy hbad.2 (wrap_lo (by omega) (by omega)) (wrap_lo (by omega) (by omega)) (wrap_lo (by omega) (by omega)) (wrap_lo (by omega) (by omega))
        have ih := num_at_loop hmax i bx xs (k + 1) (10 * n + (x.toNat : Int) - 48) hr (by omega) hlt (by omega) (by omega)
        rw [hh, decide_eq_true (by omega : i < k + 1)] at ih
        rw [if_neg (by decide)]
        obtain ⟨k', m, h1 | h1⟩ := ih
        · exact ⟨k', m, .inl ⟨ev_step cfg (hst.trans h1.1), h1.2⟩⟩
        · exact ⟨k', m, .inr ⟨ev_step cfg (hst.trans h1.1), h1.2⟩⟩

theorem num_ev {l : List UInt8} (hmax : l.length < 1000000) (i : Nat) (hi : i ≤ l.length) (bx : List Box) : ev cfg (.call 78 [S (bsT l), I (i : Int)] bx) = some (.ret (.agg (agrN l (numQ (l.drop i)))) none) := by
  have hq : numQ (l.drop i) = numG (l.drop i).head? 0 (decide (i < i)) (l.drop i) := by
    rw [decide_eq_false (Nat.lt_irrefl i)]; rfl
  obtain ⟨k', m, ⟨h1, h2, h3⟩ | ⟨h1, h2⟩⟩ := num_at_loop hmax i bx (l.drop i) i 0 rfl (Nat.le_refl i) hi (Int.le_refl 0) (by omega)
  · rw [hq, h2, ev_step cfg (f78_exit h1)]
    split
    · rfl
    · simp only [agrN, endN, List.length_drop]
      have : ((l.length : Int) - ((l.length - k' : Nat) : Int)) = (k' : Int) := by omega
      rw [this]
  · rw [hq, h2, ev_step cfg (f78_ret h1)]
    rfl
end Go.Proofs.YtgppmcpbphgnnaaDoor
