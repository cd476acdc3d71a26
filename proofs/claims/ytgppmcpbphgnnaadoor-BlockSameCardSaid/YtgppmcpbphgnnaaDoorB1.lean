/- Blocks as trees, and what a block's cells say of one. No condition. -/
import Derived.Test.YtgppmcpbphgnnaaDoorVxCfg
import Derived.Test.YtgppmcpbphgnnaaDoorVf
set_option linter.unusedSimpArgs false
set_option linter.unusedVariables false
set_option linter.unusedSectionVars false
namespace Go.Proofs.YtgppmcpbphgnnaaDoor
open Go Go.Vx

inductive Blk where
  | mk (k n a : Int) (ks : List Blk) (ls : List (Int × Int × Int))

def lnkD (x : Int × Int × Int) : List D := [dI x.1, dI x.2.1, dI x.2.2]

/-- the cells of a block say a tree -/
def IsB : Blk → Int → Int → Int → D → D → Prop
  | .mk k n a ks ls, k', n', a', K, L => k' = k ∧ n' = n ∧ a' = a ∧ i64 k ∧ i64 n ∧ i64 a ∧ ∃ rows, IsS 5 rows K ∧ IsBs ks rows ∧ ks.length < 9223372036854775808 ∧ IsS 3 (ls.map lnkD) L ∧ ls.length < 9223372036854775808 ∧ ∀ x ∈ ls, i64 x.1 ∧ i64 x.2.1 ∧ i64 x.2.2
where
  IsBs : List Blk → List (List D) → Prop
  | [], rows => rows = []
  | b :: bs, rows => ∃ k n a K L rest, rows = [dI k, dI n, dI a, K, L] :: rest ∧ IsB b k n a K L ∧ IsBs bs rest

theorem isBs_len : ∀ {bs : List Blk} {rows : List (List D)}, IsB.IsBs bs rows → rows.length = bs.length
  | [], _, h => by rw [IsB.IsBs] at h; subst h; rfl
  | b :: bs, _, h => by
    rw [IsB.IsBs] at h
    obtain ⟨_, _, _, _, _, rest, rfl, _, h3⟩ := h
    simp [isBs_len h3]

/-- is it more than is gone through? -/
def bigB (m d : Int) : Blk → Bool × Int
  | .mk _ _ _ ks ls => if (decide (m - 1 < 0) || decide (d > 60) || decide ((ks.length : Int) > 200) || decide ((ls.length : Int) > 100)) = true then (true, m - 1) else bigs (m - 1) (d + 1) ks
where
  bigs (m d : Int) : List Blk → Bool × Int
  | [] => (false, m)
  | b :: bs => if (bigB m d b).1 = true then (true, (bigB m d b).2) else bigs (bigB m d b).2 d bs

theorem bigB_ge : ∀ (b : Blk) (m d : Int), m - (bigB m d b).2 ≥ 1
  | .mk k n a ks ls, m, d => by
    rw [bigB]
    split
    · show m - (m - 1) ≥ 1; omega
    · have := go ks (m - 1) (d + 1); omega
where
  go : ∀ (bs : List Blk) (m d : Int), m - (bigB.bigs m d bs).2 ≥ 0
  | [], m, d => by rw [bigB.bigs]; show m - m ≥ 0; omega
  | b :: bs, m, d => by
    rw [bigB.bigs]
    have h1 := bigB_ge b m d
    split
    · show m - (bigB m d b).2 ≥ 0; omega
    · have := go bs (bigB m d b).2 d; omega

theorem bigB_lo : ∀ (b : Blk) (m d : Int), ¬ (bigB m d b).1 = true → -1 ≤ (bigB m d b).2
  | .mk k n a ks ls, m, d, h => by
    rw [bigB] at h ⊢
    split at h
    · exact absurd rfl h
    · rename_i hc
      rw [if_neg hc]
      simp only [Bool.or_eq_true, decide_eq_true_eq, not_or] at hc
      exact go ks (m - 1) (d + 1) (by omega) h
where
  go : ∀ (bs : List Blk) (m d : Int), -1 ≤ m → ¬ (bigB.bigs m d bs).1 = true → -1 ≤ (bigB.bigs m d bs).2
  | [], m, d, hm, _ => by rw [bigB.bigs]; exact hm
  | b :: bs, m, d, hm, h => by
    rw [bigB.bigs] at h ⊢
    split at h
    · exact absurd rfl h
    · rename_i hc
      rw [if_neg hc]
      exact go bs _ d (bigB_lo b m d hc) h

end Go.Proofs.YtgppmcpbphgnnaaDoor
