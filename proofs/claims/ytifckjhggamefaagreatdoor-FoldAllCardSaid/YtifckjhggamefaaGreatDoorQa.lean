/- Terms as trees, and what a term's cells say of one. No condition. -/
import Derived.Test.YtifckjhggamefaaGreatDoorVyCfg
set_option linter.unusedSimpArgs false
set_option linter.unusedVariables false
set_option linter.unusedSectionVars false
namespace Go.Proofs.YtifckjhggamefaaGreatDoor
open Go Go.Vx
inductive Trm where
 | mk (op n : Int) (ks : List Trm)
def IsT : Trm -> Int -> Int -> D -> Prop
 | .mk op n ks,op',n',K => op' = op /\ n' = n /\ i64 op /\ i64 n /\ ∃ rows,IsS 3 rows K /\ IsTs ks rows /\ ks.length < 9223372036854775808
where
 IsTs : List Trm -> List (List D) -> Prop
 | [],rows => rows = []
 | b :: bs,rows => ∃ op n K rest,rows = [dI op,dI n,K] :: rest /\ IsT b op n K /\ IsTs bs rest
theorem isTs_len : ∀ {bs : List Trm} {rows : List (List D)},IsT.IsTs bs rows -> rows.length = bs.length
 | [],_,h => by rw [IsT.IsTs] at h; subst h; rfl
 | b :: bs,_,h => by
  rw [IsT.IsTs] at h
  obtain ⟨_,_,_,rest,rfl,_,h3⟩ := h
  simp [isTs_len h3]
theorem isT_one {b : Trm} {op n : Int} {K : D} (h : IsT b op n K) : Oq K := by
 cases b
 rw [IsT] at h
 obtain ⟨_,_,_,_,rows,⟨_,_,_,h1⟩,_,_⟩ := h
 exact h1
def sizeT : Trm -> Int
 | .mk _ _ ks => 1 + go ks
where
 go : List Trm -> Int
 | [] => 0
 | b :: bs => sizeT b + go bs
def depT : Trm -> Int
 | .mk _ _ ks => go 0 ks + 1
where
 go (m : Int) : List Trm -> Int
 | [] => m
 | b :: bs => go (if m < depT b then depT b else m) bs
theorem sizeT_pos : ∀ b,1 <= sizeT b
 | .mk _ _ ks => by rw [sizeT]; have := go ks; omega
where
 go : ∀ bs,0 <= sizeT.go bs
 | [] => by rw [sizeT.go]; omega
 | b :: bs => by rw [sizeT.go]; have := sizeT_pos b; have := go bs; omega
theorem depT_le : ∀ b,1 <= depT b /\ depT b <= sizeT b
 | .mk _ _ ks => by rw [sizeT,depT]; have := go ks 0 (by omega); omega
where
 go : ∀ (bs : List Trm) (m : Int),0 <= m -> m <= depT.go m bs /\ depT.go m bs <= m + sizeT.go bs
 | [],m,h => by rw [sizeT.go,depT.go]; omega
 | b :: bs,m,h => by
  rw [sizeT.go,depT.go]
  have h1 := depT_le b
  have h2 := sizeT_pos.go bs
  split
  ·have := go bs (depT b) (by omega); omega
  ·have := go bs m h; omega
def okOp (op : Int) : Bool := decide (3 <= op) && decide (op <= 14)
def arity (op : Int) : Nat := if op < 5 then 1 else 2
def asked (op : Int) : Bool := op == 4 || decide (op >= 13)
def truth (op : Int) : Bool := op == 4 || decide (op >= 10)
def tyOf (b : Bool) : Int := if b then 2 else 1
def wordL (op : Int) : List UInt8 :=
 if op = 3 then [110,101,103] else if op = 4 then [110,111,116] else if op = 5 then [97,100,100] else if op = 6 then [115,117,98]
 else if op = 7 then [109,117,108] else if op = 8 then [100,105,118] else if op = 9 then [109,111,100] else if op = 10 then [101,113]
 else if op = 11 then [108,116] else if op = 12 then [108,101] else if op = 13 then [97,110,100] else [111,114]
theorem okOp_cases {op : Int} (h : okOp op = true) : op = 3 ∨ op = 4 ∨ op = 5 ∨ op = 6 ∨ op = 7 ∨ op = 8 ∨ op = 9 ∨ op = 10 ∨ op = 11 ∨ op = 12 ∨ op = 13 ∨ op = 14 := by
 simp only [okOp,Bool.and_eq_true,dqE] at h
 omega
def deepT (d : Int) : Trm -> Bool
 | .mk _ _ ks => decide (d > 24) || go (d + 1) ks
where
 go (d : Int) : List Trm -> Bool
 | [] => false
 | b :: bs => deepT d b || go d bs
def nodeOk (op n : Int) (l : Nat) : Bool :=
 if op = 1 then l == 0 && decide (n >= 0) && decide (n <= 1099511627776)
 else if op = 2 then l == 0 && decide (n >= 0) && decide (n < 4)
 else okOp op && n == 0 && l == arity op
def shapT : Trm -> Bool
 | .mk op n ks => nodeOk op n ks.length && go ks
where
 go : List Trm -> Bool
 | [] => true
 | b :: bs => shapT b && go bs
def typT : Trm -> Int
 | .mk op _ ks => if op = 1 ∨ op = 2 then 1 else if go op ks = true then tyOf (truth op) else 0
where
 go (op : Int) : List Trm -> Bool
 | [] => true
 | b :: bs => (typT b == tyOf (asked op)) && go op bs
def wrongT (t : Trm) : Int := if deepT 1 t = true then 2 else if shapT t = true then 0 else 4
def okTy : Trm -> Bool
 | .mk op _ ks => go (asked op) ks
where
 go (a : Bool) : List Trm -> Bool
 | [] => true
 | .mk op n ks :: bs => (truth op == a) && okTy (.mk op n ks) && go a bs
theorem deepT_dep : ∀ (b : Trm) (d : Int),deepT d b = decide (d + depT b > 25)
 | .mk op n ks,d => by
  rw [deepT,depT]
  have h := go ks (d + 1) 0
  rw [Bool.eq_iff_iff]
  simp only [Bool.or_eq_true,dqE]
  constructor
  ·rintro (h1 | h1)
   ·have := (depT_le.go ks 0 (Int.le_refl 0)).1; omega
   ·have := h.2 (.inr h1); omega
  ·intro h1
   rcases h.1 (by omega) with h2 | h2
   ·exact .inl (by omega)
   ·exact .inr h2
where
 go : ∀ (bs : List Trm) (d m : Int),(d + depT.go m bs > 25) ↔ (d + m > 25 ∨ deepT.go d bs = true)
 | [],d,m => by rw [depT.go,deepT.go]; simp
 | b :: bs,d,m => by
  rw [depT.go,deepT.go,go bs d _,deepT_dep b d]
  simp only [Bool.or_eq_true,dqE]
  cases hr : deepT.go d bs with
  | true => simp
  | false =>
   simp only [Bool.false_eq_true,or_false]
   split <;> constructor <;> intro h <;> omega
inductive Blk where
 | mk (k n a : Int) (ks : List Blk) (ls : List (Int × Int × Int))
def lnkD (x : Int × Int × Int) : List D := [dI x.1,dI x.2.1,dI x.2.2]
def IsB : Blk -> Int -> Int -> Int -> D -> D -> Prop
 | .mk k n a ks ls,k',n',a',K,L => k' = k /\ n' = n /\ a' = a /\ i64 k /\ i64 n /\ i64 a /\ ∃ rows,IsS 5 rows K /\ IsBs ks rows /\ ks.length < 9223372036854775808 /\ IsS 3 (ls.map lnkD) L /\ ls.length < 9223372036854775808 /\ ∀ x ∈ ls,i64 x.1 /\ i64 x.2.1 /\ i64 x.2.2
where
 IsBs : List Blk -> List (List D) -> Prop
 | [],rows => rows = []
 | b :: bs,rows => ∃ k n a K L rest,rows = [dI k,dI n,dI a,K,L] :: rest /\ IsB b k n a K L /\ IsBs bs rest
theorem isBs_len : ∀ {bs : List Blk} {rows : List (List D)},IsB.IsBs bs rows -> rows.length = bs.length
 | [],_,h => by rw [IsB.IsBs] at h; subst h; rfl
 | b :: bs,_,h => by
  rw [IsB.IsBs] at h
  obtain ⟨_,_,_,_,_,rest,rfl,_,h3⟩ := h
  simp [isBs_len h3]
end Go.Proofs.YtifckjhggamefaaGreatDoor
