/- Terms as trees, and what a term's cells say of one. No condition. -/
import Derived.Test.YtgppmcpbphgnnaaDoorVxCfg
import Derived.Test.YtgppmcpbphgnnaaDoorVf
set_option linter.unusedSimpArgs false
set_option linter.unusedVariables false
set_option linter.unusedSectionVars false
namespace Go.Proofs.YtgppmcpbphgnnaaDoor
open Go Go.Vx

inductive Trm where
  | mk (op n : Int) (ks : List Trm)

/-- the cells of a term say a tree -/
def IsT : Trm → Int → Int → D → Prop
  | .mk op n ks, op', n', K => op' = op ∧ n' = n ∧ i64 op ∧ i64 n ∧ ∃ rows, IsS 3 rows K ∧ IsTs ks rows ∧ ks.length < 9223372036854775808
where
  IsTs : List Trm → List (List D) → Prop
  | [], rows => rows = []
  | b :: bs, rows => ∃ op n K rest, rows = [dI op, dI n, K] :: rest ∧ IsT b op n K ∧ IsTs bs rest

theorem isTs_len : ∀ {bs : List Trm} {rows : List (List D)}, IsT.IsTs bs rows → rows.length = bs.length
  | [], _, h => by rw [IsT.IsTs] at h; subst h; rfl
  | b :: bs, _, h => by
    rw [IsT.IsTs] at h
    obtain ⟨_, _, _, rest, rfl, _, h3⟩ := h
    simp [isTs_len h3]

theorem isT_one {b : Trm} {op n : Int} {K : D} (h : IsT b op n K) : K.oneC = true := by
  cases b
  rw [IsT] at h
  obtain ⟨_, _, _, _, rows, ⟨_, _, _, h1⟩, _, _⟩ := h
  exact h1

/-- is it more than is gone through? -/
def bigT (m d : Int) : Trm → Bool × Int
  | .mk _ _ ks => if (decide (m - 1 < 0) || decide (d > 100) || decide ((ks.length : Int) > 100)) = true then (true, m - 1) else bigs (m - 1) (d + 1) ks
where
  bigs (m d : Int) : List Trm → Bool × Int
  | [] => (false, m)
  | b :: bs => if (bigT m d b).1 = true then (true, (bigT m d b).2) else bigs (bigT m d b).2 d bs

theorem bigT_ge : ∀ (b : Trm) (m d : Int), m - (bigT m d b).2 ≥ 1
  | .mk op n ks, m, d => by
    rw [bigT]
    split
    · show m - (m - 1) ≥ 1; omega
    · have := go ks (m - 1) (d + 1); omega
where
  go : ∀ (bs : List Trm) (m d : Int), m - (bigT.bigs m d bs).2 ≥ 0
  | [], m, d => by rw [bigT.bigs]; show m - m ≥ 0; omega
  | b :: bs, m, d => by
    rw [bigT.bigs]
    have h1 := bigT_ge b m d
    split
    · show m - (bigT m d b).2 ≥ 0; omega
    · have := go bs (bigT m d b).2 d; omega

theorem bigT_lo : ∀ (b : Trm) (m d : Int), ¬ (bigT m d b).1 = true → -1 ≤ (bigT m d b).2
  | .mk op n ks, m, d, h => by
    rw [bigT] at h ⊢
    split at h
    · exact absurd rfl h
    · rename_i hc
      rw [if_neg hc]
      simp only [Bool.or_eq_true, decide_eq_true_eq, not_or] at hc
      exact go ks (m - 1) (d + 1) (by omega) h
where
  go : ∀ (bs : List Trm) (m d : Int), -1 ≤ m → ¬ (bigT.bigs m d bs).1 = true → -1 ≤ (bigT.bigs m d bs).2
  | [], m, d, hm, _ => by rw [bigT.bigs]; exact hm
  | b :: bs, m, d, hm, h => by
    rw [bigT.bigs] at h ⊢
    split at h
    · exact absurd rfl h
    · rename_i hc
      rw [if_neg hc]
      exact go bs _ d (bigT_lo b m d hc) h

/-! ### how many, how deep -/
def sizeT : Trm → Int
  | .mk _ _ ks => 1 + go ks
where
  go : List Trm → Int
  | [] => 0
  | b :: bs => sizeT b + go bs

def depT : Trm → Int
  | .mk _ _ ks => go 0 ks + 1
where
  go (m : Int) : List Trm → Int
  | [] => m
  | b :: bs => go (if m < depT b then depT b else m) bs

theorem sizeT_pos : ∀ b, 1 ≤ sizeT b
  | .mk _ _ ks => by rw [sizeT]; have := go ks; omega
where
  go : ∀ bs, 0 ≤ sizeT.go bs
  | [] => by rw [sizeT.go]; omega
  | b :: bs => by rw [sizeT.go]; have := sizeT_pos b; have := go bs; omega

theorem depT_le : ∀ b, 1 ≤ depT b ∧ depT b ≤ sizeT b
  | .mk _ _ ks => by rw [sizeT, depT]; have := go ks 0 (by omega); omega
where
  go : ∀ (bs : List Trm) (m : Int), 0 ≤ m → m ≤ depT.go m bs ∧ depT.go m bs ≤ m + sizeT.go bs
  | [], m, h => by rw [sizeT.go, depT.go]; omega
  | b :: bs, m, h => by
    rw [sizeT.go, depT.go]
    have h1 := depT_le b
    have h2 := sizeT_pos.go bs
    split
    · have := go bs (depT b) (by omega); omega
    · have := go bs m h; omega

theorem bigT_size : ∀ (b : Trm) (m d : Int), ¬ (bigT m d b).1 = true → sizeT b ≤ m - (bigT m d b).2
  | .mk op n ks, m, d, h => by
    rw [bigT] at h ⊢
    split at h
    · exact absurd rfl h
    · rename_i hc
      rw [if_neg hc, sizeT]
      have := go ks (m - 1) (d + 1) h
      omega
where
  go : ∀ (bs : List Trm) (m d : Int), ¬ (bigT.bigs m d bs).1 = true → sizeT.go bs ≤ m - (bigT.bigs m d bs).2
  | [], m, d, _ => by rw [sizeT.go, bigT.bigs]; show 0 ≤ m - m; omega
  | b :: bs, m, d, h => by
    rw [bigT.bigs] at h ⊢
    split at h
    · exact absurd rfl h
    · rename_i hc
      rw [if_neg hc, sizeT.go]
      have h1 := bigT_size b m d hc
      have h2 := go bs _ d h
      omega

/-! ### the operators: text, kids, their type, its type -/
def okOp (op : Int) : Bool := decide (3 ≤ op) && decide (op ≤ 14)
def arity (op : Int) : Nat := if op < 5 then 1 else 2
def asked (op : Int) : Bool := op == 4 || decide (op ≥ 13)
def truth (op : Int) : Bool := op == 4 || decide (op ≥ 10)
def tyOf (b : Bool) : Int := if b then 2 else 1

def wordL (op : Int) : List UInt8 :=
  if op = 3 then [110, 101, 103] else if op = 4 then [110, 111, 116] else if op = 5 then [97, 100, 100] else if op = 6 then [115, 117, 98]
  else if op = 7 then [109, 117, 108] else if op = 8 then [100, 105, 118] else if op = 9 then [109, 111, 100] else if op = 10 then [101, 113]
  else if op = 11 then [108, 116] else if op = 12 then [108, 101] else if op = 13 then [97, 110, 100] else [111, 114]

theorem okOp_cases {op : Int} (h : okOp op = true) : op = 3 ∨ op = 4 ∨ op = 5 ∨ op = 6 ∨ op = 7 ∨ op = 8 ∨ op = 9 ∨ op = 10 ∨ op = 11 ∨ op = 12 ∨ op = 13 ∨ op = 14 := by
  simp only [okOp, Bool.and_eq_true, decide_eq_true_eq] at h
  omega

/-! ### what is wrong with it -/
def deepT (d : Int) : Trm → Bool
  | .mk _ _ ks => decide (d > 24) || go (d + 1) ks
where
  go (d : Int) : List Trm → Bool
  | [] => false
  | b :: bs => deepT d b || go d bs

/-- a node by itself -/
def nodeOk (op n : Int) (l : Nat) : Bool :=
  if op = 1 then l == 0 && decide (n ≥ 0) && decide (n ≤ 1099511627776)
  else if op = 2 then l == 0 && decide (n ≥ 0) && decide (n < 4)
  else okOp op && n == 0 && l == arity op

def shapT : Trm → Bool
  | .mk op n ks => nodeOk op n ks.length && go ks
where
  go : List Trm → Bool
  | [] => true
  | b :: bs => shapT b && go bs

def typT : Trm → Int
  | .mk op _ ks => if op = 1 ∨ op = 2 then 1 else if go op ks = true then tyOf (truth op) else 0
where
  go (op : Int) : List Trm → Bool
  | [] => true
  | b :: bs => (typT b == tyOf (asked op)) && go op bs

def wrongT (t : Trm) : Int := if deepT 1 t = true then 2 else if shapT t = true then 0 else 4

/-! ### the reference's -/
def okTy : Trm → Bool
  | .mk op _ ks => go (asked op) ks
where
  go (a : Bool) : List Trm → Bool
  | [] => true
  | .mk op n ks :: bs => (truth op == a) && okTy (.mk op n ks) && go a bs

theorem deepT_dep : ∀ (b : Trm) (d : Int), deepT d b = decide (d + depT b > 25)
  | .mk op n ks, d => by
    rw [deepT, depT]
    have h := go ks (d + 1) 0
    rw [Bool.eq_iff_iff]
    simp only [Bool.or_eq_true, decide_eq_true_eq]
    constructor
    · rintro (h1 | h1)
      · have := (depT_le.go ks 0 (Int.le_refl 0)).1; omega
      · have := h.2 (.inr h1); omega
    · intro h1
      rcases h.1 (by omega) with h2 | h2
      · exact .inl (by omega)
      · exact .inr h2
where
  go : ∀ (bs : List Trm) (d m : Int), (d + depT.go m bs > 25) ↔ (d + m > 25 ∨ deepT.go d bs = true)
  | [], d, m => by rw [depT.go, deepT.go]; simp
  | b :: bs, d, m => by
    rw [depT.go, deepT.go, go bs d _, deepT_dep b d]
    simp only [Bool.or_eq_true, decide_eq_true_eq]
    cases hr : deepT.go d bs with
    | true => simp
    | false =>
      simp only [Bool.false_eq_true, or_false]
      split <;> constructor <;> intro h <;> omega

end Go.Proofs.YtgppmcpbphgnnaaDoor
