/- Rounds of slices.Index, slices.Contains at ints; block.linked, a right link. No condition. -/
import Derived.Test.YtifckjhggamefaaGreatDoorHh
set_option linter.unusedSimpArgs false
set_option linter.unusedVariables false
set_option linter.unusedSectionVars false
namespace Go.Proofs.YtifckjhggamefaaGreatDoor
open Go Go.Vx
set_option maxHeartbeats 4000000
set_option maxRecDepth 10000
section
variable {bx : List Box} {fr rows lr xr : List (List D)} {N F K L X : D} {i : Nat} {k a n x y : Int}
theorem intIdx_round (hX : IsS 1 xr X) (hget : xr[i]? = some [dI y]) (hlt : i < xr.length) (hmax : xr.length < 9223372036854775808) :
  Jq (.loop 81 2 (q0 bx (sh81_2 (.dat X) (I x) (I xr.length) (I i)))) =
   if (x == y) = true then some (.loop .ret (q0 bx (se81_2 (I i)))) else ev cfg (.loop 81 2 (q0 bx (sh81_2 (.dat X) (I x) (I xr.length) (I ((i + 1 : Nat) : Int))))) := by
 obtain ⟨w,h1,h2,h3⟩ := hX
 obtain rfl := isS_w h2 hget
 cases c0 : (x == y) <;> simp only [go_sem,seval,h1,h3,nat_lt hlt,nat_neg,tnc,hget,nat_succ hlt hmax,c0]
theorem intIdx_stop (hX : Oq X) {m : Nat} (hge : m <= i) :
  Jq (.loop 81 2 (q0 bx (sh81_2 (.dat X) (I x) (I m) (I i)))) = some (.loop (.exit 0) (q0 bx (se81_2 .dead))) := by
 simp only [go_sem,seval,hX,nat_ge hge]
theorem intIdx_call {y : Option Nat} (hX : IsS 1 xr X)
  (hloop : ev cfg (.loop 81 2 (q0 bx (sh81_2 (.dat X) (I x) (I xr.length) (I 0)))) = some (match y with
   | some j => .loop .ret (q0 bx (se81_2 (I j)))
   | none => .loop (.exit 0) (q0 bx (se81_2 .dead)))) :
  Jq (.call 81 [.dat X,I x] bx) = Rq (I (match y with | some j => (j : Int) | none => -1)) := by
 obtain ⟨w,h1,h2,h3⟩ := hX
 cases y <;> simp only at hloop <;> simp only [go_sem,seval,h1,h3,hloop]
theorem intHas_call {y : Int} (hX : Oq X) (hc : ev cfg (.call 81 [.dat X,I x] bx) = Rq (I y)) :
  Jq (.call 49 [.dat X,I x] bx) = Rq (B (decide (y >= 0))) := by
 simp only [go_sem,seval,hX,hc]
theorem blink_ok {ins outs f t w : Int} (hN : Oq N) (hF : IsS 6 fr F) (hK : IsS 5 rows K) (hL : IsS 3 lr L) (hget : lr[i]? = some [dI f,dI t,dI w]) (hlt : i < lr.length) (hmax : lr.length < 9223372036854775808) (e1 : decide (f < -1) = false) (e2 : decide (f >= (rows.length : Int)) = false) (e3 : decide (t < -1) = false) (e4 : decide (t >= (rows.length : Int)) = false) (e5 : decide (w < 0) = false) (e6 : decide (w >= (fr.length : Int)) = false) (w1 : IntKind.wrap .i64 (ins + 1) = ins + 1) (w2 : IntKind.wrap .i64 (outs + 1) = outs + 1) :
  Jq (.loop 121 3 (qs bx (sh121_3 (P0 bx) (P1 bx) (I ins) (I outs) (.dat L) (I lr.length) (I i)) [Nb N F,Wx k n a K L])) =
   ev cfg (.loop 121 3 (qs bx (sh121_3 (P0 bx) (P1 bx) (I (if f < 0 then ins + 1 else ins)) (I (if t < 0 then outs + 1 else outs)) (.dat L) (I lr.length) (I ((i + 1 : Nat) : Int))) [Nb N F,Wx k n a K L])) := by
 obtain ⟨w4,h1,h2,h3⟩ := hL
 obtain rfl := isS_w h2 hget
 obtain ⟨w5,g1,g2,g3⟩ := hF
 obtain ⟨w6,q1,q2,q3⟩ := hK
 cases c0 : decide (f < 0)
 ·cases c1 : decide (t < 0)
  ·rw [if_neg (by simpa using c0),if_neg (by simpa using c1)]; simp only [go_sem,seval,h1,h3,g1,g3,q1,q3,hN,nat_lt hlt,nat_neg,tnc,hget,e1,e2,e3,e4,e5,e6,w1,w2,nat_succ hlt hmax,c0,c1]
  ·rw [if_neg (by simpa using c0),if_pos (by simpa using c1)]; simp only [go_sem,seval,h1,h3,g1,g3,q1,q3,hN,nat_lt hlt,nat_neg,tnc,hget,e1,e2,e3,e4,e5,e6,w1,w2,nat_succ hlt hmax,c0,c1]
 ·cases c1 : decide (t < 0)
  ·rw [if_pos (by simpa using c0),if_neg (by simpa using c1)]; simp only [go_sem,seval,h1,h3,g1,g3,q1,q3,hN,nat_lt hlt,nat_neg,tnc,hget,e1,e2,e3,e4,e5,e6,w1,w2,nat_succ hlt hmax,c0,c1]
  ·rw [if_pos (by simpa using c0),if_pos (by simpa using c1)]; simp only [go_sem,seval,h1,h3,g1,g3,q1,q3,hN,nat_lt hlt,nat_neg,tnc,hget,e1,e2,e3,e4,e5,e6,w1,w2,nat_succ hlt hmax,c0,c1]
theorem blink_end {ins outs : Int} {m : Nat} (hN : Oq N) (hF : Oq F) (hK : Oq K) (hL : Oq L) (hge : m <= i) :
  Jq (.loop 121 3 (qs bx (sh121_3 (P0 bx) (P1 bx) (I ins) (I outs) (.dat L) (I m) (I i)) [Nb N F,Wx k n a K L])) =
   some (.loop (.exit 0) (qs bx (se121_3 (P1 bx) .dead (I ins) (I outs)) [Nb N F,Wx k n a K L])) := by
 simp only [go_sem,seval,hN,hF,hK,hL,nat_ge hge]
theorem blink_fno {ins outs : Int} (hN : Oq N) (hF : Oq F) (hK : Oq K) (hL : IsS 3 lr L)
  (hloop : ev cfg (.loop 121 3 (qs bx (sh121_3 (P0 bx) (P1 bx) (I 0) (I 0) (.dat L) (I lr.length) (I 0)) [Nb N F,Wx k n a K L])) =
   some (.loop .ret (qs bx (se121_3 (P1 bx) (B false) (I ins) (I outs)) [Nb N F,Wx k n a K L]))) :
  Jq (.call 121 [Nq N F,Wq k n a K L] bx) = Rq (B false) := by
 obtain ⟨w1,h1,h2,h3⟩ := hL
 simp only [go_sem,seval,h1,h3,hN,hF,hK,hloop]
theorem blink_f {ins outs : Int} (hN : Oq N) (hF : Oq F) (hK : Oq K) (hL : IsS 3 lr L)
  (hloop : ev cfg (.loop 121 3 (qs bx (sh121_3 (P0 bx) (P1 bx) (I 0) (I 0) (.dat L) (I lr.length) (I 0)) [Nb N F,Wx k n a K L])) =
   some (.loop (.exit 0) (qs bx (se121_3 (P1 bx) .dead (I ins) (I outs)) [Nb N F,Wx k n a K L]))) :
  Jq (.call 121 [Nq N F,Wq k n a K L] bx) = Rq (B (ins == 1 && (outs == 1 && decide ((lr.length : Int) <= 40)))) := by
 obtain ⟨w1,h1,h2,h3⟩ := hL
 cases c0 : (ins == 1)
 ·simp only [go_sem,seval,h1,h3,hN,hF,hK,hloop,c0]
 ·cases c1 : (outs == 1)
  ·simp only [go_sem,seval,h1,h3,hN,hF,hK,hloop,c0,c1]
  ·simp only [go_sem,seval,h1,h3,hN,hF,hK,hloop,c0,c1]
end
section
variable {bx : List Box} {nr lr rows : List (List D)} {N F K L : D} {k a n : Int}
theorem bright_no (hN : IsS 5 nr N) (hF : Oq F) (hK : IsS 5 rows K) (hL : IsS 3 lr L) (hb : (((a != 0) && ((k != 7) || (a != 1))) || (decide ((lr.length : Int) > 0) && (k != 9))) = true) :
  Jq (.call 73 [Nq N F,Wq k n a K L] bx) = Rq (B (false)) := by
 obtain ⟨w1,h1,h2,h3⟩ := hN
 obtain ⟨w2,q1,q2,q3⟩ := hK
 obtain ⟨w3,l1,l2,l3⟩ := hL
 cases c0 : (a != 0)
 ·cases c1 : decide ((lr.length : Int) > 0)
  ·simp only [c0,c1,Bool.false_and,Bool.true_and,Bool.and_false,Bool.and_true,Bool.false_or,Bool.or_false,Bool.false_eq_true,Bool.true_eq_false] at hb
  ·cases c2 : (k != 9)
   ·simp only [c0,c1,c2,Bool.false_and,Bool.true_and,Bool.and_false,Bool.and_true,Bool.false_or,Bool.or_false,Bool.false_eq_true,Bool.true_eq_false] at hb
   ·simp only [go_sem,seval,h1,h3,hF,q1,q3,l1,l3,nat_neg,tnc,c0,c1,c2]
 ·cases c1 : (k != 7)
  ·cases c2 : (a != 1)
   ·cases c3 : decide ((lr.length : Int) > 0)
    ·simp only [c0,c1,c2,c3,Bool.false_and,Bool.true_and,Bool.and_false,Bool.and_true,Bool.false_or,Bool.or_false,Bool.false_eq_true,Bool.true_eq_false] at hb
    ·cases c4 : (k != 9)
     ·simp only [c0,c1,c2,c3,c4,Bool.false_and,Bool.true_and,Bool.and_false,Bool.and_true,Bool.false_or,Bool.or_false,Bool.false_eq_true,Bool.true_eq_false] at hb
     ·simp only [go_sem,seval,h1,h3,hF,q1,q3,l1,l3,nat_neg,tnc,c0,c1,c2,c3,c4]
   ·simp only [go_sem,seval,h1,h3,hF,q1,q3,l1,l3,nat_neg,tnc,c0,c1,c2]
  ·simp only [go_sem,seval,h1,h3,hF,q1,q3,l1,l3,nat_neg,tnc,c0,c1]
end
section
variable {bx : List Box} {nr lr rows : List (List D)} {N F K L : D} {k n : Int} {v : Bool}
theorem bright_3 (hN : IsS 5 nr N) (hF : Oq F) (hK : IsS 5 rows K) (hL : IsS 3 lr L) (hl : decide ((lr.length : Int) > 0) = false) (hv : Cq 74 [.dat K,.clo 119 []] (B v)) :
  Jq (.call 73 [Nq N F,Wq 3 n 0 K L] bx) = Rq (B (n == 0 && (decide ((rows.length : Int) > 1) && !v))) := by
 obtain ⟨w1,h1,h2,h3⟩ := hN
 obtain ⟨w2,q1,q2,q3⟩ := hK
 obtain ⟨w3,l1,l2,l3⟩ := hL
 cases c0 : decide (n >= 0)
 ·cases c1 : (n == 0)
  ·simp only [go_sem,seval,h1,h3,hF,q1,q3,l1,l3,nat_neg,tnc,hl,hv,c0,c1]
  ·cases c2 : decide ((rows.length : Int) > 1)
   ·simp only [go_sem,seval,h1,h3,hF,q1,q3,l1,l3,nat_neg,tnc,hl,hv,c0,c1,c2]
   ·simp only [go_sem,seval,h1,h3,hF,q1,q3,l1,l3,nat_neg,tnc,hl,hv,c0,c1,c2]
 ·cases c1 : (n == 0)
  ·simp only [go_sem,seval,h1,h3,hF,q1,q3,l1,l3,nat_neg,tnc,hl,hv,c0,c1]
  ·cases c2 : decide ((rows.length : Int) > 1)
   ·simp only [go_sem,seval,h1,h3,hF,q1,q3,l1,l3,nat_neg,tnc,hl,hv,c0,c1,c2]
   ·simp only [go_sem,seval,h1,h3,hF,q1,q3,l1,l3,nat_neg,tnc,hl,hv,c0,c1,c2]
theorem bright_4 (hN : IsS 5 nr N) (hF : Oq F) (hK : IsS 5 rows K) (hL : IsS 3 lr L) (hl : decide ((lr.length : Int) > 0) = false) (hv : Cq 120 [Nq N F,I n,I 6,I rows.length] (B v)) :
  Jq (.call 73 [Nq N F,Wq 4 n 0 K L] bx) = Rq (B (v)) := by
 obtain ⟨w1,h1,h2,h3⟩ := hN
 obtain ⟨w2,q1,q2,q3⟩ := hK
 obtain ⟨w3,l1,l2,l3⟩ := hL
 cases c0 : decide (n >= 0)
 ·simp only [go_sem,seval,h1,h3,hF,q1,q3,l1,l3,nat_neg,tnc,hl,hv,c0]
 ·simp only [go_sem,seval,h1,h3,hF,q1,q3,l1,l3,nat_neg,tnc,hl,hv,c0]
theorem bright_5 (hN : IsS 5 nr N) (hF : Oq F) (hK : IsS 5 rows K) (hL : IsS 3 lr L) (hl : decide ((lr.length : Int) > 0) = false) (hv : Cq 120 [Nq N F,I n,I 5,I rows.length] (B v)) :
  Jq (.call 73 [Nq N F,Wq 5 n 0 K L] bx) = Rq (B (v)) := by
 obtain ⟨w1,h1,h2,h3⟩ := hN
 obtain ⟨w2,q1,q2,q3⟩ := hK
 obtain ⟨w3,l1,l2,l3⟩ := hL
 cases c0 : decide (n >= 0)
 ·simp only [go_sem,seval,h1,h3,hF,q1,q3,l1,l3,nat_neg,tnc,hl,hv,c0]
 ·simp only [go_sem,seval,h1,h3,hF,q1,q3,l1,l3,nat_neg,tnc,hl,hv,c0]
theorem bright_6 (hN : IsS 5 nr N) (hF : Oq F) (hK : IsS 5 rows K) (hL : IsS 3 lr L) (hl : decide ((lr.length : Int) > 0) = false) (hv : Cq 120 [Nq N F,I n,I 7,I rows.length] (B v)) :
  Jq (.call 73 [Nq N F,Wq 6 n 0 K L] bx) = Rq (B (v)) := by
 obtain ⟨w1,h1,h2,h3⟩ := hN
 obtain ⟨w2,q1,q2,q3⟩ := hK
 obtain ⟨w3,l1,l2,l3⟩ := hL
 cases c0 : decide (n >= 0)
 ·simp only [go_sem,seval,h1,h3,hF,q1,q3,l1,l3,nat_neg,tnc,hl,hv,c0]
 ·simp only [go_sem,seval,h1,h3,hF,q1,q3,l1,l3,nat_neg,tnc,hl,hv,c0]
theorem bright_o (hN : IsS 5 nr N) (hF : Oq F) (hK : IsS 5 rows K) (hL : IsS 3 lr L) (hl : decide ((lr.length : Int) > 0) = false) (k1 : (k == 1) = false) (k10 : (k == 10) = false) (k2 : (k == 2) = false) (k8 : (k == 8) = false) (k3 : (k == 3) = false) (k4 : (k == 4) = false) (k5 : (k == 5) = false) (k6 : (k == 6) = false) (k7 : (k == 7) = false) (k9 : (k == 9) = false) :
  Jq (.call 73 [Nq N F,Wq k n 0 K L] bx) = Rq (B (false)) := by
 obtain ⟨w1,h1,h2,h3⟩ := hN
 obtain ⟨w2,q1,q2,q3⟩ := hK
 obtain ⟨w3,l1,l2,l3⟩ := hL
 cases c0 : decide (n >= 0)
 ·simp only [go_sem,seval,h1,h3,hF,q1,q3,l1,l3,nat_neg,tnc,hl,k1,k10,k2,k8,k3,k4,k5,k6,k7,k9,c0]
 ·simp only [go_sem,seval,h1,h3,hF,q1,q3,l1,l3,nat_neg,tnc,hl,k1,k10,k2,k8,k3,k4,k5,k6,k7,k9,c0]
end
section
variable {bx : List Box} {nr lr rows : List (List D)} {N F K L : D} {a n : Int} {v : Bool}
theorem bright_7 (hN : IsS 5 nr N) (hF : Oq F) (hK : IsS 5 rows K) (hL : IsS 3 lr L) (hl : decide ((lr.length : Int) > 0) = false) (hb : ((a != 0) && (a != 1)) = false) (hv : Cq 120 [Nq N F,I n,I 5,I rows.length] (B v)) :
  Jq (.call 73 [Nq N F,Wq 7 n a K L] bx) = Rq (B ((rows.length : Int) == 2 && v)) := by
 obtain ⟨w1,h1,h2,h3⟩ := hN
 obtain ⟨w2,q1,q2,q3⟩ := hK
 obtain ⟨w3,l1,l2,l3⟩ := hL
 cases c0 : (a != 0)
 ·cases c1 : decide (n >= 0)
  ·cases c2 : ((rows.length : Int) == 2)
   ·simp only [go_sem,seval,h1,h3,hF,q1,q3,l1,l3,nat_neg,tnc,hl,hv,c0,c1,c2]
   ·simp only [go_sem,seval,h1,h3,hF,q1,q3,l1,l3,nat_neg,tnc,hl,hv,c0,c1,c2]
  ·cases c2 : ((rows.length : Int) == 2)
   ·simp only [go_sem,seval,h1,h3,hF,q1,q3,l1,l3,nat_neg,tnc,hl,hv,c0,c1,c2]
   ·simp only [go_sem,seval,h1,h3,hF,q1,q3,l1,l3,nat_neg,tnc,hl,hv,c0,c1,c2]
 ·cases c1 : (a != 1)
  ·cases c2 : decide (n >= 0)
   ·cases c3 : ((rows.length : Int) == 2)
    ·simp only [go_sem,seval,h1,h3,hF,q1,q3,l1,l3,nat_neg,tnc,hl,hv,c0,c1,c2,c3]
    ·simp only [go_sem,seval,h1,h3,hF,q1,q3,l1,l3,nat_neg,tnc,hl,hv,c0,c1,c2,c3]
   ·cases c3 : ((rows.length : Int) == 2)
    ·simp only [go_sem,seval,h1,h3,hF,q1,q3,l1,l3,nat_neg,tnc,hl,hv,c0,c1,c2,c3]
    ·simp only [go_sem,seval,h1,h3,hF,q1,q3,l1,l3,nat_neg,tnc,hl,hv,c0,c1,c2,c3]
  ·simp only [c0,c1,Bool.false_and,Bool.true_and,Bool.and_false,Bool.and_true,Bool.false_or,Bool.or_false,Bool.false_eq_true,Bool.true_eq_false] at hb
end
section
variable {bx : List Box} {nr lr rows : List (List D)} {N F K L : D} {n : Int}
theorem bright_1 (hN : IsS 5 nr N) (hF : Oq F) (hK : IsS 5 rows K) (hL : IsS 3 lr L) (hl : decide ((lr.length : Int) > 0) = false) :
  Jq (.call 73 [Nq N F,Wq 1 n 0 K L] bx) = Rq (B (n == 0 && (rows.length : Int) == 0)) := by
 obtain ⟨w1,h1,h2,h3⟩ := hN
 obtain ⟨w2,q1,q2,q3⟩ := hK
 obtain ⟨w3,l1,l2,l3⟩ := hL
 cases c0 : decide (n >= 0)
 ·cases c1 : (n == 0)
  ·simp only [go_sem,seval,h1,h3,hF,q1,q3,l1,l3,nat_neg,tnc,hl,c0,c1]
  ·simp only [go_sem,seval,h1,h3,hF,q1,q3,l1,l3,nat_neg,tnc,hl,c0,c1]
 ·cases c1 : (n == 0)
  ·simp only [go_sem,seval,h1,h3,hF,q1,q3,l1,l3,nat_neg,tnc,hl,c0,c1]
  ·simp only [go_sem,seval,h1,h3,hF,q1,q3,l1,l3,nat_neg,tnc,hl,c0,c1]
theorem bright_10 (hN : IsS 5 nr N) (hF : Oq F) (hK : IsS 5 rows K) (hL : IsS 3 lr L) (hl : decide ((lr.length : Int) > 0) = false) :
  Jq (.call 73 [Nq N F,Wq 10 n 0 K L] bx) = Rq (B (n == 0 && (rows.length : Int) == 0)) := by
 obtain ⟨w1,h1,h2,h3⟩ := hN
 obtain ⟨w2,q1,q2,q3⟩ := hK
 obtain ⟨w3,l1,l2,l3⟩ := hL
 cases c0 : decide (n >= 0)
 ·cases c1 : (n == 0)
  ·simp only [go_sem,seval,h1,h3,hF,q1,q3,l1,l3,nat_neg,tnc,hl,c0,c1]
  ·simp only [go_sem,seval,h1,h3,hF,q1,q3,l1,l3,nat_neg,tnc,hl,c0,c1]
 ·cases c1 : (n == 0)
  ·simp only [go_sem,seval,h1,h3,hF,q1,q3,l1,l3,nat_neg,tnc,hl,c0,c1]
  ·simp only [go_sem,seval,h1,h3,hF,q1,q3,l1,l3,nat_neg,tnc,hl,c0,c1]
end
section
variable {bx : List Box} {nr lr rows : List (List D)} {N F K L K2 : D} {p : Nat} {n op2 n2 kd aa : Int} {v : Bool}
theorem bright_2no (hN : IsS 5 nr N) (hF : Oq F) (hK : IsS 5 rows K) (hL : IsS 3 lr L) (hl : decide ((lr.length : Int) > 0) = false) (h : (decide (n >= 0) && decide (n < (nr.length : Int))) = false) :
  Jq (.call 73 [Nq N F,Wq 2 n 0 K L] bx) = Rq (B (false)) := by
 obtain ⟨w1,h1,h2,h3⟩ := hN
 obtain ⟨w2,q1,q2,q3⟩ := hK
 obtain ⟨w3,l1,l2,l3⟩ := hL
 cases c0 : decide (n >= 0)
 ·simp only [go_sem,seval,h1,h3,hF,q1,q3,l1,l3,nat_neg,tnc,hl,c0]
 ·rw [c0,Bool.true_and] at h; simp only [go_sem,seval,h1,h3,hF,q1,q3,l1,l3,nat_neg,tnc,hl,h,c0]
theorem bright_2go (hN : IsS 5 nr N) (hF : Oq F) (hK : IsS 5 rows K) (hL : IsS 3 lr L) (hl : decide ((lr.length : Int) > 0) = false) (hp : nr[p]? = some [dI kd,dI aa,dI op2,dI n2,K2]) (hv : Cq 49 [.dat (.sl 1 [[dI 3],[dI 4],[dI 8]]),I kd] (B v)) :
  Jq (.call 73 [Nq N F,Wq 2 p 0 K L] bx) = Rq (B ((rows.length : Int) == 0 && v)) := by
 obtain ⟨w1,h1,h2,h3⟩ := hN
 obtain rfl := isS_w h2 hp
 obtain ⟨w2,q1,q2,q3⟩ := hK
 obtain ⟨w3,l1,l2,l3⟩ := hL
 have lp : p < nr.length := (gsi.1 hp).1
 have z1 : decide ((p : Int) >= 0) = true := dqt (by omega)
 have z2 : decide ((p : Int) < (nr.length : Int)) = true := dqt (by omega)
 cases c0 : ((rows.length : Int) == 0)
 ·simp only [go_sem,seval,h1,h3,hF,q1,q3,l1,l3,nat_neg,tnc,hl,hv,hp,lp,z1,z2,c0]
 ·simp only [go_sem,seval,h1,h3,hF,q1,q3,l1,l3,nat_neg,tnc,hl,hv,hp,lp,z1,z2,c0]
theorem bright_8no (hN : IsS 5 nr N) (hF : Oq F) (hK : IsS 5 rows K) (hL : IsS 3 lr L) (hl : decide ((lr.length : Int) > 0) = false) (h : (decide (n >= 0) && decide (n < (nr.length : Int))) = false) :
  Jq (.call 73 [Nq N F,Wq 8 n 0 K L] bx) = Rq (B (false)) := by
 obtain ⟨w1,h1,h2,h3⟩ := hN
 obtain ⟨w2,q1,q2,q3⟩ := hK
 obtain ⟨w3,l1,l2,l3⟩ := hL
 cases c0 : decide (n >= 0)
 ·simp only [go_sem,seval,h1,h3,hF,q1,q3,l1,l3,nat_neg,tnc,hl,c0]
 ·rw [c0,Bool.true_and] at h; simp only [go_sem,seval,h1,h3,hF,q1,q3,l1,l3,nat_neg,tnc,hl,h,c0]
theorem bright_8go (hN : IsS 5 nr N) (hF : Oq F) (hK : IsS 5 rows K) (hL : IsS 3 lr L) (hl : decide ((lr.length : Int) > 0) = false) (hp : nr[p]? = some [dI kd,dI aa,dI op2,dI n2,K2]) (hv : Cq 49 [.dat (.sl 1 [[dI 5],[dI 6],[dI 7]]),I kd] (B v)) :
  Jq (.call 73 [Nq N F,Wq 8 p 0 K L] bx) = Rq (B ((rows.length : Int) == 0 && v)) := by
 obtain ⟨w1,h1,h2,h3⟩ := hN
 obtain rfl := isS_w h2 hp
 obtain ⟨w2,q1,q2,q3⟩ := hK
 obtain ⟨w3,l1,l2,l3⟩ := hL
 have lp : p < nr.length := (gsi.1 hp).1
 have z1 : decide ((p : Int) >= 0) = true := dqt (by omega)
 have z2 : decide ((p : Int) < (nr.length : Int)) = true := dqt (by omega)
 cases c0 : ((rows.length : Int) == 0)
 ·simp only [go_sem,seval,h1,h3,hF,q1,q3,l1,l3,nat_neg,tnc,hl,hv,hp,lp,z1,z2,c0]
 ·simp only [go_sem,seval,h1,h3,hF,q1,q3,l1,l3,nat_neg,tnc,hl,hv,hp,lp,z1,z2,c0]
end
section
variable {bx : List Box} {nr lr rows : List (List D)} {N F K L : D} {n : Int} {v : Bool}
theorem bright_9  (hv : Cq 121 [Nq N F,Wq 9 n 0 K L] (B v)) (hN : IsS 5 nr N) (hF : Oq F) (hK : IsS 5 rows K) (hL : IsS 3 lr L) :
  Jq (.call 73 [Nq N F,Wq 9 n 0 K L] bx) = Rq (B (n == 0 && (decide ((rows.length : Int) > 0) && v))) := by
 obtain ⟨w1,h1,h2,h3⟩ := hN
 obtain ⟨w2,q1,q2,q3⟩ := hK
 obtain ⟨w3,l1,l2,l3⟩ := hL
 cases c0 : decide ((lr.length : Int) > 0)
 ·cases c1 : decide (n >= 0)
  ·cases c2 : (n == 0)
   ·simp only [go_sem,seval,h1,h3,hF,q1,q3,l1,l3,nat_neg,tnc,hv,c0,c1,c2]
   ·cases c3 : decide ((rows.length : Int) > 0)
    ·simp only [go_sem,seval,h1,h3,hF,q1,q3,l1,l3,nat_neg,tnc,hv,c0,c1,c2,c3]
    ·simp only [go_sem,seval,h1,h3,hF,q1,q3,l1,l3,nat_neg,tnc,hv,c0,c1,c2,c3]
  ·cases c2 : (n == 0)
   ·simp only [go_sem,seval,h1,h3,hF,q1,q3,l1,l3,nat_neg,tnc,hv,c0,c1,c2]
   ·cases c3 : decide ((rows.length : Int) > 0)
    ·simp only [go_sem,seval,h1,h3,hF,q1,q3,l1,l3,nat_neg,tnc,hv,c0,c1,c2,c3]
    ·simp only [go_sem,seval,h1,h3,hF,q1,q3,l1,l3,nat_neg,tnc,hv,c0,c1,c2,c3]
 ·cases c1 : decide (n >= 0)
  ·cases c2 : (n == 0)
   ·simp only [go_sem,seval,h1,h3,hF,q1,q3,l1,l3,nat_neg,tnc,hv,c0,c1,c2]
   ·cases c3 : decide ((rows.length : Int) > 0)
    ·simp only [go_sem,seval,h1,h3,hF,q1,q3,l1,l3,nat_neg,tnc,hv,c0,c1,c2,c3]
    ·simp only [go_sem,seval,h1,h3,hF,q1,q3,l1,l3,nat_neg,tnc,hv,c0,c1,c2,c3]
  ·cases c2 : (n == 0)
   ·simp only [go_sem,seval,h1,h3,hF,q1,q3,l1,l3,nat_neg,tnc,hv,c0,c1,c2]
   ·cases c3 : decide ((rows.length : Int) > 0)
    ·simp only [go_sem,seval,h1,h3,hF,q1,q3,l1,l3,nat_neg,tnc,hv,c0,c1,c2,c3]
    ·simp only [go_sem,seval,h1,h3,hF,q1,q3,l1,l3,nat_neg,tnc,hv,c0,c1,c2,c3]
end
end Go.Proofs.YtifckjhggamefaaGreatDoor
