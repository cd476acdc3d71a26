/- Rounds of the terms' functions: large, deep, shaped, typed. No condition. -/
import Derived.Test.YtifckjhggamefaaGreatDoorBt
import Derived.Test.YtifckjhggamefaaGreatDoorQa
set_option linter.unusedSimpArgs false
set_option linter.unusedVariables false
set_option linter.unusedSectionVars false
namespace Go.Proofs.YtifckjhggamefaaGreatDoor
open Go Go.Vx
set_option maxHeartbeats 4000000
set_option maxRecDepth 10000
section
variable {bx : List Box} {c : Box} {rows : List (List D)} {K : D} {i : Nat} {op n : Int} {K' : D}
def idxI : Option Nat -> Int
 | some j => j
 | none => -1
theorem r84 {g : FuncId} {cap : List Nat} {b : Bool} (hK : IsS 3 rows K) (hget : rows[i]? = some [dI op,dI n,K']) (hlt : i < rows.length) (hmax : rows.length < 9223372036854775808) (hcap : cap.all (fun l => decide (l < bx.length)) = true)
  (hcall : ev cfg (.call g ([Tq op n K'] ++ cap.map fun l => .ptr l 0) bx) = Rq (B b)) :
  Jq (.loop 177 2 (q0 bx (sh177_2 (.dat K) (.clo g cap) (I rows.length) (I i)))) =
   if b = true then some (.loop .ret (q0 bx (se177_2 (I i))))
   else ev cfg (.loop 177 2 (q0 bx (sh177_2 (.dat K) (.clo g cap) (I rows.length) (I ((i + 1 : Nat) : Int))))) := by
 obtain ⟨w,h1,h2,h3⟩ := hK
 obtain rfl := isS_w h2 hget
 simp only [List.cons_append,List.nil_append] at hcall
 cases b <;> simp only [go_sem,seval,h1,h3,nat_lt hlt,nat_neg,tnc,hget,hcall,hcap,nat_succ hlt hmax,Nat.min_self,List.take_length,Nat.le_refl,Nat.sub_self,List.drop_length]
theorem e84 {g : FuncId} {cap : List Nat} {n : Nat} (hcap : cap.all (fun l => decide (l < bx.length)) = true) (hge : n <= i) :
  Jq (.loop 177 2 (q0 bx (sh177_2 (.dat K) (.clo g cap) (I n) (I i)))) = some (.loop (.exit 0) (q0 bx (se177_2 .dead))) := by
 simp only [go_sem,seval,nat_ge hge,hcap,List.take_length,Nat.le_refl,Nat.sub_self,List.drop_length]
theorem f84 {g : FuncId} {cap : List Nat} {r : Option Nat} (hK : IsS 3 rows K)
  (hloop : ev cfg (.loop 177 2 (q0 bx (sh177_2 (.dat K) (.clo g cap) (I rows.length) (I 0)))) =
   some (match r with | some j => .loop .ret (q0 bx (se177_2 (I j))) | none => .loop (.exit 0) (q0 bx (se177_2 .dead)))) :
  Jq (.call 177 [.dat K,.clo g cap] bx) = Rq (I (idxI r)) := by
 obtain ⟨w,h1,h2,h3⟩ := hK
 cases r <;> simp only at hloop <;> simp only [go_sem,seval,h1,h3,hloop,idxI]
theorem f63 {g : FuncId} {cap : List Nat} {x : Int} (hK : IsS 3 rows K) (h : ev cfg (.call 177 [.dat K,.clo g cap] bx) = Rq (I x)) :
  Jq (.call 173 [.dat K,.clo g cap] bx) = Rq (B (decide (x >= 0))) := by
 obtain ⟨w,h1,h2,h3⟩ := hK
 simp only [go_sem,seval,h1,h3,h]
theorem f61 {d : Int} {b : Bool} (hK : IsS 3 rows K) (h : ∀ c : Box,ev cfg (.call 173 [.dat K,.clo 175 [bx.length + 1]] (bx ++ [c,[I d]])) = Rq (B b)) :
  Jq (.call 171 [Tq op n K,I d] bx) = Rq (B (decide (d > 24) || b)) := by
 obtain ⟨w,h1,h2,h3⟩ := hK
 cases c1 : decide (d > 24) <;> simp only [go_sem,seval,h1,h3,h,c1]
theorem f82 {l : Nat} {d : Int} {b : Bool} (hK : IsS 3 rows K) (hl : l < bx.length) (hb : bx[l]? = some [I d]) (hd : IntKind.wrap .i64 (d + 1) = d + 1) (h : Cq 171 [Tq op n K,I (d + 1)] (B b)) :
  Jq (.call 175 [Tq op n K,.ptr l 0] bx) = Rq (B b) := by
 obtain ⟨w,h1,h2,h3⟩ := hK
 simp only [go_sem,seval,h1,h3,h,hl,hb,hd]
end
noncomputable def wordsD : List D := (cfg.glob 1).getD []
theorem gw : cfg.glob 1 = some wordsD := rfl
def bsL (l : List UInt8) : ByteArray := ⟨l.toArray⟩
structure Wd (op : Int) : Prop where
 neg : (op < 0) = False
 lt : (op.toNat < 15) = True
 row : (wordsD.drop (op.toNat * 4)).take 4 = [.lit (.string (bsL (wordL op))),dI (arity op),dI (tyOf (asked op)),dI (tyOf (truth op))]
 len : (op.toNat * 4 + 4 <= wordsD.length) = True
 r0 : wordsD[op.toNat * 4]? = some (.lit (.string (bsL (wordL op))))
 r1 : wordsD[op.toNat * 4 + 1]? = some (dI (arity op))
theorem wd {op : Int} (h : okOp op = true) : Wd op := by
 rcases okOp_cases h with rfl | rfl | rfl | rfl | rfl | rfl | rfl | rfl | rfl | rfl | rfl | rfl <;>
  exact ⟨eq_false (by decide),eq_true (by decide),rfl,eq_true (by decide),rfl,rfl⟩
section
variable {bx : List Box} {c : Box} {rows : List (List D)} {K : D} {op n : Int}
theorem f62_1 {kl : Nat} (hK : IsS 3 rows K) (hrl : rows.length = kl) :
  Jq (.call 172 [Tq 1 n K] bx) = Rq (B ((kl : Int) == 0 && decide (n >= 0) && decide (n <= 1099511627776))) := by
 obtain ⟨w,h1,h2,h3⟩ := hK
 cases c1 : ((kl : Int) == 0) <;> cases c2 : decide (n >= 0) <;> simp only [go_sem,seval,h1,h3,hrl,c1,c2]
theorem f62_2 {kl : Nat} (hK : IsS 3 rows K) (hrl : rows.length = kl) :
  Jq (.call 172 [Tq 2 n K] bx) = Rq (B ((kl : Int) == 0 && decide (n >= 0) && decide (n < 4))) := by
 obtain ⟨w,h1,h2,h3⟩ := hK
 cases c1 : ((kl : Int) == 0) <;> cases c2 : decide (n >= 0) <;> simp only [go_sem,seval,h1,h3,hrl,c1,c2]
theorem f62_no (hK : IsS 3 rows K) (h1 : (op == 1) = false) (h2 : (op == 2) = false) (h : (decide (op < 3) || decide (op > 14) || n != 0) = true) :
  Jq (.call 172 [Tq op n K] bx) = Rq (B false) := by
 obtain ⟨w,k1,k2,k3⟩ := hK
 cases c1 : decide (op < 3)
 ·cases c2 : decide (op > 14)
  ·rw [c1,c2] at h
   simp only [Bool.false_or] at h
   simp only [go_sem,seval,k1,k3,h1,h2,c1,c2,h]
  ·simp only [go_sem,seval,k1,k3,h1,h2,c1,c2]
 ·simp only [go_sem,seval,k1,k3,h1,h2,c1]
theorem f62_op {kl : Nat} {b : Bool} (hK : IsS 3 rows K) (hrl : rows.length = kl) (h1 : (op == 1) = false) (h2 : (op == 2) = false) (c1 : decide (op < 3) = false) (c2 : decide (op > 14) = false) (c3 : (n != 0) = false) (W : Wd op)
  (h : Cq 173 [.dat K,.clo 176 []] (B b)) :
  Jq (.call 172 [Tq op n K] bx) = Rq (B (!((kl : Int) != (arity op : Int)) && !b)) := by
 obtain ⟨w,k1,k2,k3⟩ := hK
 obtain ⟨w1,w2,w3,w4,w5,w6⟩ := W
 cases c4 : ((kl : Int) != (arity op : Int)) <;> simp only [go_sem,seval,k1,k3,h1,h2,c1,c2,c3,gw,w1,w2,w6,hrl,c4,h]
theorem f83 {b : Bool} (hK : IsS 3 rows K) (h : Cq 172 [Tq op n K] (B b)) :
  Jq (.call 176 [Tq op n K] bx) = Rq (B (!b)) := by
 obtain ⟨w,k1,k2,k3⟩ := hK
 simp only [go_sem,seval,k1,k3,h]
theorem f44_leaf (hK : IsS 3 rows K) (h : (op == 1 || op == 2) = true) : Jq (.call 168 [Tq op n K] bx) = Rq (I 1) := by
 obtain ⟨w,k1,k2,k3⟩ := hK
 cases c1 : (op == 1)
 ·rw [c1,Bool.false_or] at h
  simp only [go_sem,seval,k1,k3,c1,h]
 ·simp only [go_sem,seval,k1,k3,c1]
theorem f44_op {b : Bool} (hK : IsS 3 rows K) (h1 : (op == 1) = false) (h2 : (op == 2) = false) (W : Wd op)
  (h : ∀ c : Box,ev cfg (.call 173 [.dat K,.clo 174 [bx.length + 1]] (bx ++ [c,[S (bsL (wordL op)),I (arity op),I (tyOf (asked op)),I (tyOf (truth op))]])) = Rq (B b)) :
  Jq (.call 168 [Tq op n K] bx) = Rq (I (if b = true then 0 else tyOf (truth op))) := by
 obtain ⟨w,k1,k2,k3⟩ := hK
 obtain ⟨w1,w2,w3,w4,w5,w6⟩ := W
 cases b <;> simp only [go_sem,seval,k1,k3,h1,h2,gw,w1,w2,w3,w4,h]
theorem f64 {l : Nat} {s : ByteArray} {ar ask out x : Int} (hK : IsS 3 rows K) (hl : l < bx.length) (hb : bx[l]? = some [S s,I ar,I ask,I out]) (h : Cq 168 [Tq op n K] (I x)) :
  Jq (.call 174 [Tq op n K,.ptr l 0] bx) = Rq (B (x != ask)) := by
 obtain ⟨w,k1,k2,k3⟩ := hK
 simp only [go_sem,seval,k1,k3,hl,hb,h]
theorem f43 {b1 b2 : Bool} (hK : IsS 3 rows K) (h1 : Cq 171 [Tq op n K,I 1] (B b1)) (h2 : Cq 172 [Tq op n K] (B b2)) :
  Jq (.call 167 [Tq op n K] bx) = Rq (I (if b1 = true then 2 else if b2 = true then 0 else 4)) := by
 obtain ⟨w,k1,k2,k3⟩ := hK
 cases b1 <;> cases b2 <;> simp only [go_sem,seval,k1,k3,h1,h2]
theorem f21_bad {x : Int} (hK : IsS 3 rows K) (hx : (x != 0) = true) (h1 : Cq 167 [Tq op n K] (I x)) :
  Jq (.call 158 [Tq op n K] bx) = Rq (.tup [I 0,I x]) := by
 obtain ⟨w,k1,k2,k3⟩ := hK
 simp only [go_sem,seval,k1,k3,h1,hx]
theorem f21_ok {y : Int} (hK : IsS 3 rows K) (h1 : Cq 167 [Tq op n K] (I 0)) (h2 : Cq 168 [Tq op n K] (I y)) :
  Jq (.call 158 [Tq op n K] bx) = Rq (.tup [I y,I (if (y == 0) = true then 30 else 0)]) := by
 obtain ⟨w,k1,k2,k3⟩ := hK
 have h0 : ((0 : Int) != 0) = false := rfl
 cases c1 : (y == 0)
 ·simp only [go_sem,seval,k1,k3,h1,h2,h0,c1]
 ·have : y = 0 := by simpa using c1
  subst this
  simp only [go_sem,seval,k1,k3,h1,h2,h0,c1]
end
section
variable {bx : List Box} {c : Box} {rows : List (List D)} {K : D} {i : Nat} {op n : Int} {K' : D}
theorem r65 {x m : Int} (hK : IsS 3 rows K) (hc : c.all (cellLt (bx.length + 1)) = true) (hget : rows[i]? = some [dI op,dI n,K']) (hlt : i < rows.length) (hmax : rows.length < 9223372036854775808) (hk : Oq K')
  (hcall : Cq 159 [Tq op n K'] (I x)) :
  Jq (.loop 159 3 (qs bx (sh159_3 (I m) (.dat K) (I rows.length) (I i)) [c])) =
   ev cfg (.loop 159 3 (qs bx (sh159_3 (I (if m < x then x else m)) (.dat K) (I rows.length) (I ((i + 1 : Nat) : Int))) [c])) := by
 obtain ⟨w,h1,h2,h3⟩ := hK
 obtain rfl := isS_w h2 hget
 cases hx : decide (x > m)
 ·have hx' : ¬ m < x := by simpa using hx
  simp only [go_sem,seval,h1,h3,hk,nat_lt hlt,nat_neg,tnc,hget,hcall,hc,nat_succ hlt hmax,Nat.min_self,hx,hx']
 ·have hx' : m < x := by simpa using hx
  simp only [go_sem,seval,h1,h3,hk,nat_lt hlt,nat_neg,tnc,hget,hcall,hc,nat_succ hlt hmax,Nat.min_self,hx,hx']
theorem e65 {m : Int} {n i : Nat} (hc : c.all (cellLt (bx.length + 1)) = true) (hge : n <= i) :
  Jq (.loop 159 3 (qs bx (sh159_3 (I m) (.dat K) (I n) (I i)) [c])) = some (.loop (.exit 0) (qs bx (se159_3 (I m)) [c])) := by
 simp only [go_sem,seval,nat_ge hge,hc]
theorem f65 {x : Int} (hK : IsS 3 rows K) (hx : IntKind.wrap .i64 (x + 1) = x + 1)
  (hloop : ∀ c : Box,c.all (cellLt (bx.length + 1)) = true -> ev cfg (.loop 159 3 (qs bx (sh159_3 (I 0) (.dat K) (I rows.length) (I 0)) [c])) = some (.loop (.exit 0) (qs bx (se159_3 (I x)) [c]))) :
  Jq (.call 159 [Tq op n K] bx) = Rq (I (x + 1)) := by
 obtain ⟨w,h1,h2,h3⟩ := hK
 have hloop' := hloop [I op,I n,.dat K] (by simp [cellLt])
 simp only [go_sem,seval,h1,h3,hloop',hx]
theorem f79 : Jq (.call 169 [I op] bx) = Rq (I (if op < 3 then 0 else if op < 5 then 1 else 2)) := by
 cases c1 : decide (op < 3)
 ·have h1 : ¬ op < 3 := by simpa using c1
  cases c2 : decide (op < 5)
  ·have h2 : ¬ op < 5 := by simpa using c2
   simp only [go_sem,seval,c1,c2,h1,h2]
  ·have h2 : op < 5 := by simpa using c2
   simp only [go_sem,seval,c1,c2,h1,h2]
 ·have h1 : op < 3 := by simpa using c1
  simp only [go_sem,seval,c1,h1]
theorem f47 : Jq (.call 143 [I op] bx) = Rq (B (truth op)) := by
 unfold truth
 cases c1 : (op == 4) <;> simp only [go_sem,seval,c1]
theorem f66_bad1 (hK : IsS 3 rows K) (h : (decide (op < 1) || decide (op > 14)) = true) :
  Jq (.call 160 [Tq op n K] bx) = Rq (B false) := by
 obtain ⟨w,k1,k2,k3⟩ := hK
 cases c1 : decide (op < 1)
 ·rw [c1,Bool.false_or] at h
  simp only [go_sem,seval,k1,k3,c1,h]
 ·simp only [go_sem,seval,k1,k3,c1]
theorem f66_bad2 {kl : Nat} {ar : Int} (hK : IsS 3 rows K) (hrl : rows.length = kl) (c1 : decide (op < 1) = false) (c2 : decide (op > 14) = false) (hk : Cq 169 [I op] (I ar))
  (h : ((kl : Int) != ar || decide (n < 0)) = true) :
  Jq (.call 160 [Tq op n K] bx) = Rq (B false) := by
 obtain ⟨w,k1,k2,k3⟩ := hK
 cases c3 : ((kl : Int) != ar)
 ·rw [c3,Bool.false_or] at h
  simp only [go_sem,seval,k1,k3,hrl,c1,c2,c3,hk,h]
 ·simp only [go_sem,seval,k1,k3,hrl,c1,c2,c3,hk]
theorem f66_bad3 {kl : Nat} {ar : Int} (hK : IsS 3 rows K) (hrl : rows.length = kl) (c1 : decide (op < 1) = false) (c2 : decide (op > 14) = false) (hk : Cq 169 [I op] (I ar))
  (c3 : ((kl : Int) != ar) = false) (c4 : decide (n < 0) = false)
  (h : ((op == 1) && decide (n > 1099511627776) || (op == 2) && decide (n > 3) || decide (op > 2) && (n != 0)) = true) :
  Jq (.call 160 [Tq op n K] bx) = Rq (B false) := by
 obtain ⟨w,k1,k2,k3⟩ := hK
 have hpos : decide (0 <= kl) = true := by simp
 cases d1 : (op == 1) <;> cases d2 : (op == 2) <;> cases d3 : decide (op > 2) <;> simp only [d1,d2,d3,Bool.true_and,Bool.false_and,Bool.false_or,Bool.or_false,Bool.false_eq_true] at h
 all_goals try (simp only [beq_iff_eq,dqE] at d1 d2 d3; omega)
 all_goals first
  | simp only [go_sem,seval,k1,k3,hrl,c1,c2,c3,c4,hk,d1,d2,d3,h]
theorem f66_go {kl : Nat} {ar : Int} {b : Bool} (hK : IsS 3 rows K) (hrl : rows.length = kl) (c1 : decide (op < 1) = false) (c2 : decide (op > 14) = false) (hk : Cq 169 [I op] (I ar))
  (c3 : ((kl : Int) != ar) = false) (c4 : decide (n < 0) = false) (d1 : ((op == 1) && decide (n > 1099511627776)) = false) (d2 : ((op == 2) && decide (n > 3)) = false) (d3 : (decide (op > 2) && (n != 0)) = false)
  (hloop : ∀ c : Box,c.all (cellLt (bx.length + 1)) = true -> ev cfg (.loop 160 6 (qs bx (sh160_6 (.dat K) (I rows.length) (I 0)) [c])) =
   some (if b = true then .loop (.exit 0) (qs bx (se160_6 .dead) [c]) else .loop .ret (qs bx (se160_6 (B false)) [c]))) :
  Jq (.call 160 [Tq op n K] bx) = Rq (B b) := by
 obtain ⟨w,k1,k2,k3⟩ := hK
 have hloop' := hloop [I op,I n,.dat K] (by simp [cellLt])
 rw [hrl] at hloop'
 cases b <;> simp only [if_true,if_false,Bool.false_eq_true] at hloop' <;> cases e1 : (op == 1) <;> cases e2 : (op == 2) <;> cases e3 : decide (op > 2) <;> simp only [e1,e2,e3,Bool.true_and] at d1 d2 d3
 all_goals try (simp only [beq_iff_eq,dqE] at e1 e2 e3; omega)
 all_goals first
  | simp only [go_sem,seval,k1,k3,hrl,c1,c2,c3,c4,hk,d1,d2,d3,e1,e2,e3,hloop']
theorem r66 {b : Bool} (hK : IsS 3 rows K) (hc : c.all (cellLt (bx.length + 1)) = true) (hget : rows[i]? = some [dI op,dI n,K']) (hlt : i < rows.length) (hmax : rows.length < 9223372036854775808) (hk : Oq K')
  (hcall : Cq 160 [Tq op n K'] (B b)) :
  Jq (.loop 160 6 (qs bx (sh160_6 (.dat K) (I rows.length) (I i)) [c])) =
   if b = true then ev cfg (.loop 160 6 (qs bx (sh160_6 (.dat K) (I rows.length) (I ((i + 1 : Nat) : Int))) [c]))
   else some (.loop .ret (qs bx (se160_6 (B false)) [c])) := by
 obtain ⟨w,h1,h2,h3⟩ := hK
 obtain rfl := isS_w h2 hget
 cases b <;> simp only [go_sem,seval,h1,h3,hk,nat_lt hlt,nat_neg,tnc,hget,hcall,hc,nat_succ hlt hmax,Nat.min_self]
theorem e66 {n i : Nat} (hc : c.all (cellLt (bx.length + 1)) = true) (hge : n <= i) :
  Jq (.loop 160 6 (qs bx (sh160_6 (.dat K) (I n) (I i)) [c])) = some (.loop (.exit 0) (qs bx (se160_6 .dead) [c])) := by
 simp only [go_sem,seval,nat_ge hge,hc]
end
section
variable {bx : List Box} {c : Box} {rows : List (List D)} {K : D} {i : Nat} {op n : Int} {K' : D}
theorem f45 {d : Int} {b : Bool} (hK : IsS 3 rows K) (h1 : Cq 159 [Tq op n K] (I d)) (h2 : Cq 160 [Tq op n K] (B b)) :
  Jq (.call 141 [Tq op n K] bx) = Rq (I (if decide (d > 24) = true then 2 else if b = true then 0 else 4)) := by
 obtain ⟨w,k1,k2,k3⟩ := hK
 cases c1 : decide (d > 24) <;> cases b <;> simp only [go_sem,seval,k1,k3,h1,h2,c1]
theorem r46 {a tr b : Bool} (hK : IsS 3 rows K) (hc : c.all (cellLt (bx.length + 1)) = true) (hget : rows[i]? = some [dI op,dI n,K']) (hlt : i < rows.length) (hmax : rows.length < 9223372036854775808) (hk : Oq K')
  (htr : Cq 143 [I op] (B tr))
  (hcall : Cq 142 [Tq op n K'] (B b)) :
  Jq (.loop 142 3 (qs bx (sh142_3 (B a) (.dat K) (I rows.length) (I i)) [c])) =
   if ((tr == a) && b) = true then ev cfg (.loop 142 3 (qs bx (sh142_3 (B a) (.dat K) (I rows.length) (I ((i + 1 : Nat) : Int))) [c]))
   else some (.loop .ret (qs bx (se142_3 (B false)) [c])) := by
 obtain ⟨w,h1,h2,h3⟩ := hK
 obtain rfl := isS_w h2 hget
 cases tr <;> cases a <;> cases b <;> simp only [go_sem,seval,h1,h3,hk,nat_lt hlt,nat_neg,tnc,hget,htr,hcall,hc,nat_succ hlt hmax,Nat.min_self]
theorem e46 {a : Bool} {n i : Nat} (hc : c.all (cellLt (bx.length + 1)) = true) (hge : n <= i) :
  Jq (.loop 142 3 (qs bx (sh142_3 (B a) (.dat K) (I n) (I i)) [c])) = some (.loop (.exit 0) (qs bx (se142_3 .dead) [c])) := by
 simp only [go_sem,seval,nat_ge hge,hc]
theorem f46 {b : Bool} (hK : IsS 3 rows K)
  (hloop : ∀ c : Box,c.all (cellLt (bx.length + 1)) = true -> ev cfg (.loop 142 3 (qs bx (sh142_3 (B (asked op)) (.dat K) (I rows.length) (I 0)) [c])) =
   some (if b = true then .loop (.exit 0) (qs bx (se142_3 .dead) [c]) else .loop .ret (qs bx (se142_3 (B false)) [c]))) :
  Jq (.call 142 [Tq op n K] bx) = Rq (B b) := by
 obtain ⟨w,k1,k2,k3⟩ := hK
 have hloop' := hloop [I op,I n,.dat K] (by simp [cellLt])
 unfold asked at hloop'
 cases b <;> simp only [if_true,if_false,Bool.false_eq_true] at hloop' <;> cases c1 : (op == 4) <;> simp only [c1,Bool.false_or,Bool.true_or] at hloop' <;> simp only [go_sem,seval,k1,k3,hloop',c1]
theorem f22_bad {x : Int} (hK : IsS 3 rows K) (hx : (x != 0) = true) (h1 : Cq 141 [Tq op n K] (I x)) :
  Jq (.call 117 [Tq op n K] bx) = Rq (.tup [I 0,I x]) := by
 obtain ⟨w,k1,k2,k3⟩ := hK
 simp only [go_sem,seval,k1,k3,h1,hx]
theorem f22_ok {b : Bool} (hK : IsS 3 rows K) (h1 : Cq 141 [Tq op n K] (I 0)) (h2 : Cq 142 [Tq op n K] (B b))
  (h3 : Cq 143 [I op] (B (truth op))) :
  Jq (.call 117 [Tq op n K] bx) = Rq (.tup (if b = true then [I (tyOf (truth op)),I 0] else [I 0,I 30])) := by
 obtain ⟨w,k1,k2,k3⟩ := hK
 have h0 : ((0 : Int) != 0) = false := rfl
 unfold tyOf
 cases b
 ·simp only [go_sem,seval,k1,k3,h1,h2,h0]
 ·cases ht : truth op <;> simp only [ht] at h3 <;> simp only [go_sem,seval,k1,k3,h1,h2,h3,h0]
end
section
variable {bx : List Box} {c : Box} {rows : List (List D)} {K L : D} {lr : List (List D)} {i : Nat} {k n a : Int} {K' L' : D}
theorem r57 {x m : Int} (hK : IsS 5 rows K) (hc : c.all (cellLt (bx.length + 1)) = true) (hget : rows[i]? = some [dI k,dI n,dI a,K',L']) (hlt : i < rows.length) (hmax : rows.length < 9223372036854775808) (hk : Oq K') (hL : Oq L')
  (hcall : Cq 71 [Wq k n a K' L'] (I x)) :
  Jq (.loop 71 3 (qs bx (sh71_3 (I m) (.dat K) (I rows.length) (I i)) [c])) =
   ev cfg (.loop 71 3 (qs bx (sh71_3 (I (if m < x then x else m)) (.dat K) (I rows.length) (I ((i + 1 : Nat) : Int))) [c])) := by
 obtain ⟨w,h1,h2,h3⟩ := hK
 obtain rfl := isS_w h2 hget
 simp only [go_sem,seval,h1,h3,hk,hL,nat_lt hlt,nat_neg,tnc,hget,hcall,hc,nat_succ hlt hmax,Nat.min_self]
theorem e57 {m : Int} {n i : Nat} (hc : c.all (cellLt (bx.length + 1)) = true) (hge : n <= i) :
  Jq (.loop 71 3 (qs bx (sh71_3 (I m) (.dat K) (I n) (I i)) [c])) = some (.loop (.exit 0) (qs bx (se71_3 (I m)) [c])) := by
 simp only [go_sem,seval,nat_ge hge,hc]
theorem f57 {x : Int} (hK : IsS 5 rows K) (hL : IsS 3 lr L) (hx : IntKind.wrap .i64 (x + 1) = x + 1)
  (hloop : ∀ c : Box,c.all (cellLt (bx.length + 1)) = true -> ev cfg (.loop 71 3 (qs bx (sh71_3 (I 0) (.dat K) (I rows.length) (I 0)) [c])) = some (.loop (.exit 0) (qs bx (se71_3 (I x)) [c]))) :
  Jq (.call 71 [Wq k n a K L] bx) = Rq (I (x + 1)) := by
 obtain ⟨w,h1,h2,h3⟩ := hK
 obtain ⟨wl,l1,l2,l3⟩ := hL
 have hloop' := hloop (Wx k n a K L) (by simp [cellLt])
 simp only [go_sem,seval,h1,h3,l1,l3,hloop',hx]
theorem r39 {l : Nat} {u v : Box} {g : FuncId} (hK : IsS 5 rows K) (hl : l < bx.length) (hb : bx[l]? = some u) (hc : c.all (cellLt (bx.length + 1)) = true) (hget : rows[i]? = some [dI k,dI n,dI a,K',L']) (hlt : i < rows.length) (hmax : rows.length < 9223372036854775808) (hk : Oq K') (hL : Oq L')
  (lo : Option Nat) (hlo : lo = none ∨ lo = some l)
  (hcall : ∀ bx : List Box,bx[l]? = some u -> ev cfg (.call 76 [Wq k n a K' L',.clo g [l]] bx) = some (.ret (.tup []) (some ⟨bx.set l v,l,false⟩))) :
  Jq (.loop 76 3 ⟨(sh76_3 (.clo g [l]) (.dat K) (I rows.length) (I i)),bx ++ [c],bx.length,lo,false⟩) =
   ev cfg (.loop 76 3 ⟨(sh76_3 (.clo g [l]) (.dat K) (I rows.length) (I ((i + 1 : Nat) : Int))),bx.set l v ++ [c],bx.length,some l,false⟩) := by
 obtain ⟨w,h1,h2,h3⟩ := hK
 obtain rfl := isS_w h2 hget
 have hcall' : ∀ r : Box,ev cfg (.call 76 [Wq k n a K' L',.clo g [l]] (bx ++ [c,r])) = some (.ret (.tup []) (some ⟨bx.set l v ++ [c,r],l,false⟩)) := by
  intro r
  rw [hcall _ (by rw [get_old hl]; exact hb),set_old hl]
 rcases hlo with rfl | rfl <;> simp only [go_sem,seval,h1,h3,hk,hL,nat_lt hlt,nat_neg,tnc,hget,hcall',hc,hl,nat_succ hlt hmax,Nat.min_self]
theorem e39 {l : Nat} {g : FuncId} {n i : Nat} (hl : l < bx.length) (hc : c.all (cellLt (bx.length + 1)) = true) (hge : n <= i) (lo : Option Nat) :
  Jq (.loop 76 3 ⟨(sh76_3 (.clo g [l]) (.dat K) (I n) (I i)),bx ++ [c],bx.length,lo,false⟩) = some (.loop (.exit 0) ⟨(se76_3),bx ++ [c],bx.length,lo,false⟩) := by
 simp only [go_sem,seval,nat_ge hge,hc,hl]
theorem f39 {l : Nat} {u v w' : Box} {g : FuncId} (hK : IsS 5 rows K) (hL : IsS 3 lr L) (hl : l < bx.length) (hb : bx[l]? = some u)
  (hg : ∀ bx : List Box,bx[l]? = some u -> ev cfg (.call g [Wq k n a K L,.ptr l 0] bx) = some (.ret (.tup []) (some ⟨bx.set l v,l,false⟩)))
  (hloop : ∀ c : Box,c.all (cellLt (bx.length + 1)) = true -> ev cfg (.loop 76 3 ⟨(sh76_3 (.clo g [l]) (.dat K) (I rows.length) (I 0)),bx.set l v ++ [c],bx.length,some l,false⟩) = some (.loop (.exit 0) ⟨(se76_3),bx.set l w' ++ [c],bx.length,some l,false⟩)) :
  Jq (.call 76 [Wq k n a K L,.clo g [l]] bx) = some (.ret (.tup []) (some ⟨bx.set l w',l,false⟩)) := by
 obtain ⟨w,h1,h2,h3⟩ := hK
 obtain ⟨wl,l1,l2,l3⟩ := hL
 have hloop' := hloop (Wx k n a K L) (by simp [cellLt])
 have hg' : ∀ r : Box,ev cfg (.call g [Wq k n a K L,.ptr l 0] (bx ++ [r])) = some (.ret (.tup []) (some ⟨bx.set l v ++ [r],l,false⟩)) := by
  intro r
  rw [hg _ (by rw [get_old hl]; exact hb),set_old hl]
 simp only [go_sem,seval,h1,h3,l1,l3,hl,hb,hg',hloop']
theorem f40 {l : Nat} {m : Int} (hK : IsS 5 rows K) (hL : IsS 3 lr L) (hl : l < bx.length) (hb : bx[l]? = some [I m]) :
  Jq (.call 118 [Wq k n a K L,.ptr l 0] bx) = some (.ret (.tup []) (some ⟨bx.set l [I (IntKind.wrap .i64 (m + 1))],l,false⟩)) := by
 obtain ⟨w,h1,h2,h3⟩ := hK
 obtain ⟨wl,l1,l2,l3⟩ := hL
 simp only [go_sem,seval,h1,h3,l1,l3,hl,hb]
theorem f15 {m : Int} (hK : IsS 5 rows K) (hL : IsS 3 lr L)
  (he : ∀ c : Box,ev cfg (.call 76 [Wq k n a K L,.clo 118 [bx.length + 1]] (bx ++ [c,[I 0]])) = some (.ret (.tup []) (some ⟨bx ++ [c,[I m]],bx.length + 1,false⟩))) :
  Jq (.call 72 [Wq k n a K L] bx) = Rq (I m) := by
 obtain ⟨w,h1,h2,h3⟩ := hK
 obtain ⟨wl,l1,l2,l3⟩ := hL
 simp only [go_sem,seval,h1,h3,l1,l3,he]
theorem f33 {d z : Int} (hK : IsS 5 rows K) (hL : IsS 3 lr L)
  (hd : Cq 71 [Wq k n a K L] (I d))
  (hz : Cq 72 [Wq k n a K L] (I z)) :
  Jq (.call 42 [Wq k n a K L] bx) = Rq (B (decide (d > 24) || decide (z > 96))) := by
 obtain ⟨w,h1,h2,h3⟩ := hK
 obtain ⟨wl,l1,l2,l3⟩ := hL
 cases c : decide (d > 24) <;> simp only [go_sem,seval,h1,h3,l1,l3,hd,hz,c]
end
section
variable {bx : List Box} {c : Box} {rows : List (List D)} {K L : D} {lr : List (List D)} {k n a : Int}
theorem f58 {l : Nat} {v v' : Bool} (hK : IsS 5 rows K) (hL : IsS 3 lr L) (hl : l < bx.length) (hb : bx[l]? = some [B v])
  (hloop : ∀ c : Box,c.all (cellLt (bx.length + 1)) = true -> ev cfg (.loop 89 3 ⟨(sh89_3 (.ptr l 0) (.dat L) (I lr.length) (I 0)),bx.set l [B (v || decide (k < 1) || decide (k > 10) || decide (n < 0) || decide (a < 0))] ++ [c],bx.length,some l,false⟩) = some (.loop (.exit 0) ⟨(se89_3),bx.set l [B v'] ++ [c],bx.length,some l,false⟩)) :
  Jq (.call 89 [Wq k n a K L,.ptr l 0] bx) = some (.ret (.tup []) (some ⟨bx.set l [B v'],l,false⟩)) := by
 obtain ⟨ww,h1,h2,h3⟩ := hK
 obtain ⟨wl,l1,l2,l3⟩ := hL
 have hloop' := hloop (Wx k n a K L) (by simp [cellLt])
 cases v
 ·cases c1 : decide (k < 1)
  ·cases c2 : decide (k > 10)
   ·cases c3 : decide (n < 0) <;> simp only [c1,c2,c3,Bool.false_or,Bool.or_false,Bool.or_true,Bool.true_or] at hloop' <;> simp only [go_sem,seval,h1,h3,l1,l3,hl,hb,c1,c2,c3,hloop']
   ·simp only [c1,c2,Bool.false_or,Bool.or_false,Bool.or_true,Bool.true_or] at hloop'
    simp only [go_sem,seval,h1,h3,l1,l3,hl,hb,c1,c2,hloop']
  ·simp only [c1,Bool.false_or,Bool.or_false,Bool.or_true,Bool.true_or] at hloop'
   simp only [go_sem,seval,h1,h3,l1,l3,hl,hb,c1,hloop']
 ·simp only [Bool.true_or] at hloop'
  simp only [go_sem,seval,h1,h3,l1,l3,hl,hb,hloop']
end
section
end
section
end
section
end
section
end
section
end
end Go.Proofs.YtifckjhggamefaaGreatDoor
