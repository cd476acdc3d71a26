/- Rounds of the law FoldAll, and of treenailplain's Ints. No condition. -/
import Derived.Test.YtifckjhggamefaaGreatDoorQb
set_option linter.unusedSimpArgs false
set_option linter.unusedVariables false
set_option linter.unusedSectionVars false
namespace Go.Proofs.YtifckjhggamefaaGreatDoor
open Go Go.Vx
set_option maxHeartbeats 8000000
set_option maxRecDepth 10000
section
variable {bx : List Box} {nr rs xs ys : List (List D)} {N F K L X Y K2 : D} {i m : Nat} {k nd a r q kd aa op n2 u w : Int}
theorem ints_r (hX : IsS 1 xs X) (hY : IsS 1 ys Y) (hx : xs[i]? = some [dI u]) (hy : ys[i]? = some [dI w]) (c : (u != w) = false) (hlt : i < xs.length) (hl2 : i < ys.length) (hmax : xs.length < 9223372036854775808) :
  Jq (.loop 21 2 (q0 bx (sh21_2 (.dat X) (.dat Y) (I xs.length) (I i)))) =
   ev cfg (.loop 21 2 (q0 bx (sh21_2 (.dat X) (.dat Y) (I xs.length) (I ((i + 1 : Nat) : Int))))) := by
 have g : decide ((i : Int) >= (ys.length : Int)) = false := by simpa using hl2
 obtain ⟨_,p1,p2,p3⟩ := hX
 obtain rfl := isS_w p2 hx
 obtain ⟨_,q1,q2,q3⟩ := hY
 obtain rfl := isS_w q2 hy
 simp only [go_sem,seval,p1,p3,q1,q3,hx,hy,c,g,hlt,hl2,nat_lt hlt,nat_succ hlt hmax,nat_neg,tnc]
theorem ints_end (hX : Oq X) (hY : Oq Y) (hge : m <= i) :
  Jq (.loop 21 2 (q0 bx (sh21_2 (.dat X) (.dat Y) (I m) (I i)))) =
   some (.loop (.exit 0) (q0 bx (se21_2 (.dat X) (.dat Y) .dead))) := by
 simp only [go_sem,seval,hX,hY,nat_ge hge]
theorem ints_f (hX : IsS 1 xs X) (hY : IsS 1 ys Y) (c : ((xs.length : Int) == (ys.length : Int)) = true)
  (hlp : ev cfg (.loop 21 2 (q0 bx (sh21_2 (.dat X) (.dat Y) (I xs.length) (I 0)))) = some (.loop (.exit 0) (q0 bx (se21_2 (.dat X) (.dat Y) .dead)))) :
  Jq (.call 21 (Nb X Y) bx) = Rq (B true) := by
 obtain ⟨_,p1,p2,p3⟩ := hX
 obtain ⟨_,q1,q2,q3⟩ := hY
 simp only [go_sem,seval,p1,p3,q1,q3,hlp,c]
theorem fall_big (hN : Oq N) (hF : Oq F) (hlg : Cq 7 [Nq N F] (B true)) (ha : ∀ b0 : Box,ev cfg (.call 8 [] [b0]) = Rq (B true)) :
  Jq (.call 5 [Nq N F] []) = Rq (B true) := by
 simp (maxSteps := 2000000) only [go_sem,seval,hN,hF,hlg,ha]
theorem fall_bad (hN : Oq N) (hF : Oq F) (hlg : Cq 7 [Nq N F] (B false)) (h5 : Cq 18 [Nq N F] (.agg [I r,I q])) (hr : (r != 0) = true) (ha : ∀ b0 : Box,ev cfg (.call 8 [] [b0]) = Rq (B true)) :
  Jq (.call 5 [Nq N F] []) = Rq (B true) := by
 simp (maxSteps := 2000000) only [go_sem,seval,hN,hF,hlg,h5,hr,ha]
theorem fall_skip0 (hN : IsS 5 nr N) (hF : Oq F) (hK : Oq K) (hL : Oq L) (hX : Oq X) (hget : nr[i]? = some [dI kd,dI aa,dI op,dI n2,K2]) (hK2 : Oq K2) (hlt : i < nr.length) (hmax : nr.length < 9223372036854775808) (c3 : (kd == 3) = false) (c4 : (kd == 4) = false) (c8 : (kd == 8) = false) :
  Jq (.loop 5 7 ⟨(sh5_7 (.ptr 0 0) (.ptr 1 0) (I 0) (.dat X) (I 0) (.dat .nil) (.dat N) (I nr.length) (I i)),[Nb N F,Wx k nd a K L],0,none,false⟩) =
   ev cfg (.loop 5 7 ⟨(sh5_7 (.ptr 0 0) (.ptr 1 0) (I 0) (.dat X) (I 0) (.dat .nil) (.dat N) (I nr.length) (I ((i + 1 : Nat) : Int))),[Nb N F,Wx k nd a K L],0,none,false⟩) := by
 obtain ⟨_,p1,p2,p3⟩ := hN
 obtain rfl := isS_w p2 hget
 simp (maxSteps := 2000000) only [go_sem,seval,p1,p3,hF,hK,hL,hX,hget,hK2,hlt,nat_lt hlt,nat_succ hlt hmax,nat_neg,tnc,c3,c4,c8]
theorem fall_skip1 (hN : IsS 5 nr N) (hF : Oq F) (hK : Oq K) (hL : Oq L) (hX : Oq X) (hget : nr[i]? = some [dI kd,dI aa,dI op,dI n2,K2]) (hK2 : Oq K2) (hlt : i < nr.length) (hmax : nr.length < 9223372036854775808) (c3 : (kd == 3) = false) (c4 : (kd == 4) = false) (c8 : (kd == 8) = false) :
  Jq (.loop 5 7 ⟨(sh5_7 (.ptr 0 0) (.ptr 1 0) (I 0) (.dat X) (I 0) (.own true 1 rs) (.dat N) (I nr.length) (I i)),[Nb N F,Wx k nd a K L],0,none,false⟩) =
   ev cfg (.loop 5 7 ⟨(sh5_7 (.ptr 0 0) (.ptr 1 0) (I 0) (.dat X) (I 0) (.own true 1 rs) (.dat N) (I nr.length) (I ((i + 1 : Nat) : Int))),[Nb N F,Wx k nd a K L],0,none,false⟩) := by
 obtain ⟨_,p1,p2,p3⟩ := hN
 obtain rfl := isS_w p2 hget
 simp (maxSteps := 2000000) only [go_sem,seval,p1,p3,hF,hK,hL,hX,hget,hK2,hlt,nat_lt hlt,nat_succ hlt hmax,nat_neg,tnc,c3,c4,c8]
theorem fall_put0 (hN : IsS 5 nr N) (hF : Oq F) (hK : Oq K) (hL : Oq L) (hX : Oq X) (hget : nr[i]? = some [dI kd,dI aa,dI op,dI n2,K2]) (hK2 : Oq K2) (hlt : i < nr.length) (hmax : nr.length < 9223372036854775808) (h : kd = 3 ∨ kd = 4 ∨ kd = 8) :
  Jq (.loop 5 7 ⟨(sh5_7 (.ptr 0 0) (.ptr 1 0) (I 0) (.dat X) (I 0) (.dat .nil) (.dat N) (I nr.length) (I i)),[Nb N F,Wx k nd a K L],0,none,false⟩) =
   ev cfg (.loop 5 7 ⟨(sh5_7 (.ptr 0 0) (.ptr 1 0) (I 0) (.dat X) (I 0) (.own true 1 [[dI i]]) (.dat N) (I nr.length) (I ((i + 1 : Nat) : Int))),[Nb N F,Wx k nd a K L],0,none,false⟩) := by
 obtain ⟨_,p1,p2,p3⟩ := hN
 obtain rfl := isS_w p2 hget
 rcases h with rfl | rfl | rfl <;> simp (maxSteps := 2000000) only [go_sem,seval,p1,p3,hF,hK,hL,hX,hget,hK2,hlt,nat_lt hlt,nat_succ hlt hmax,nat_neg,tnc]
theorem fall_put1 (hN : IsS 5 nr N) (hF : Oq F) (hK : Oq K) (hL : Oq L) (hX : Oq X) (hget : nr[i]? = some [dI kd,dI aa,dI op,dI n2,K2]) (hK2 : Oq K2) (hlt : i < nr.length) (hmax : nr.length < 9223372036854775808) (h : kd = 3 ∨ kd = 4 ∨ kd = 8) (hks : (rs.length + 1) * 8 <= 140737488355328) :
  Jq (.loop 5 7 ⟨(sh5_7 (.ptr 0 0) (.ptr 1 0) (I 0) (.dat X) (I 0) (.own true 1 rs) (.dat N) (I nr.length) (I i)),[Nb N F,Wx k nd a K L],0,none,false⟩) =
   ev cfg (.loop 5 7 ⟨(sh5_7 (.ptr 0 0) (.ptr 1 0) (I 0) (.dat X) (I 0) (.own true 1 (rs ++ [[dI i]])) (.dat N) (I nr.length) (I ((i + 1 : Nat) : Int))),[Nb N F,Wx k nd a K L],0,none,false⟩) := by
 obtain ⟨_,p1,p2,p3⟩ := hN
 obtain rfl := isS_w p2 hget
 rcases h with rfl | rfl | rfl <;> simp (maxSteps := 2000000) only [go_sem,seval,p1,p3,hF,hK,hL,hX,hget,hK2,hlt,nat_lt hlt,nat_succ hlt hmax,nat_neg,tnc,hks]
theorem fall_end0 (hN : Oq N) (hF : Oq F) (hK : Oq K) (hL : Oq L) (hX : Oq X) (hge : m <= i) :
  Jq (.loop 5 7 ⟨(sh5_7 (.ptr 0 0) (.ptr 1 0) (I 0) (.dat X) (I 0) (.dat .nil) (.dat N) (I m) (I i)),[Nb N F,Wx k nd a K L],0,none,false⟩) =
   some (.loop (.exit 0) ⟨(se5_7 (.ptr 0 0) (.ptr 1 0) (I 0) (.dat X) (I 0) (.dat .nil)),[Nb N F,Wx k nd a K L],0,none,false⟩) := by
 simp (maxSteps := 2000000) only [go_sem,seval,hN,hF,hK,hL,hX,nat_ge hge]
theorem fall_end1 (hN : Oq N) (hF : Oq F) (hK : Oq K) (hL : Oq L) (hX : Oq X) (hge : m <= i) :
  Jq (.loop 5 7 ⟨(sh5_7 (.ptr 0 0) (.ptr 1 0) (I 0) (.dat X) (I 0) (.own true 1 rs) (.dat N) (I m) (I i)),[Nb N F,Wx k nd a K L],0,none,false⟩) =
   some (.loop (.exit 0) ⟨(se5_7 (.ptr 0 0) (.ptr 1 0) (I 0) (.dat X) (I 0) (.own true 1 rs)),[Nb N F,Wx k nd a K L],0,none,false⟩) := by
 simp (maxSteps := 2000000) only [go_sem,seval,hN,hF,hK,hL,hX,nat_ge hge]
theorem fall_f0 (hN : IsS 5 nr N) (hF : Oq F) (hlg : Cq 7 [Nq N F] (B false)) (h5 : Cq 18 [Nq N F] (.agg [I 0,I q]))
  (hb : Cq 9 [Nq N F] (.tup [Wq k nd a K L,I 0])) (hK : Oq K) (hL : Oq L) (hlv : Cq 20 [Nq N F,Wq k nd a K L] (.tup [.dat X,I 0])) (hX : Oq X)
  (hlp : ev cfg (.loop 5 7 ⟨(sh5_7 (.ptr 0 0) (.ptr 1 0) (I 0) (.dat X) (I 0) (.dat .nil) (.dat N) (I nr.length) (I 0)),[Nb N F,Wx k nd a K L],0,none,false⟩) =
   some (.loop (.exit 0) ⟨(se5_7 (.ptr 0 0) (.ptr 1 0) (I 0) (.dat X) (I 0) (.dat .nil)),[Nb N F,Wx k nd a K L],0,none,false⟩))
  (hc : Cq 19 [Nq N F,Wq k nd a K L] (I 0)) (hi : ∀ bx : List Box,ev cfg (.call 21 (Nb X .nil) bx) = Rq (B true)) (ha : ∀ b0 b1 : Box,ev cfg (.call 8 [] [b0,b1]) = Rq (B true)) :
  Jq (.call 5 [Nq N F] []) = Rq (B true) := by
 have z0 : ((0 : Int) != 0) = false := rfl
 have z1 : ((0 : Int) == 0) = true := rfl
 obtain ⟨_,p1,p2,p3⟩ := hN
 simp (maxSteps := 2000000) only [go_sem,seval,p1,p3,hF,hlg,h5,hb,hK,hL,hlv,hX,hlp,hc,hi,ha,z0,z1]
theorem fall_f1 (hN : IsS 5 nr N) (hF : Oq F) (hlg : Cq 7 [Nq N F] (B false)) (h5 : Cq 18 [Nq N F] (.agg [I 0,I q]))
  (hb : Cq 9 [Nq N F] (.tup [Wq k nd a K L,I 0])) (hK : Oq K) (hL : Oq L) (hlv : Cq 20 [Nq N F,Wq k nd a K L] (.tup [.dat X,I 0])) (hX : Oq X)
  (hlp : ev cfg (.loop 5 7 ⟨(sh5_7 (.ptr 0 0) (.ptr 1 0) (I 0) (.dat X) (I 0) (.dat .nil) (.dat N) (I nr.length) (I 0)),[Nb N F,Wx k nd a K L],0,none,false⟩) =
   some (.loop (.exit 0) ⟨(se5_7 (.ptr 0 0) (.ptr 1 0) (I 0) (.dat X) (I 0) (.own true 1 rs)),[Nb N F,Wx k nd a K L],0,none,false⟩))
  (hc : Cq 19 [Nq N F,Wq k nd a K L] (I 0)) (hi : ∀ bx : List Box,ev cfg (.call 21 (Nb X (.sl 1 rs)) bx) = Rq (B true)) (ha : ∀ b0 b1 : Box,ev cfg (.call 8 [] [b0,b1]) = Rq (B true)) :
  Jq (.call 5 [Nq N F] []) = Rq (B true) := by
 have z0 : ((0 : Int) != 0) = false := rfl
 have z1 : ((0 : Int) == 0) = true := rfl
 obtain ⟨_,p1,p2,p3⟩ := hN
 simp (maxSteps := 2000000) only [go_sem,seval,p1,p3,hF,hlg,h5,hb,hK,hL,hlv,hX,hlp,hc,hi,ha,z0,z1]
end
section
variable {bx : List Box} {nr acc : List (List D)} {N F K L K2 : D} {i p l : Nat} {k nd a e kd aa op m : Int} {v : Bool} {ys zs : List Int}
theorem leafp_f (hN : IsS 5 nr N) (hF : Oq F) (hl : l < bx.length) (hb : bx[l]? = some (Nb N F)) (hget : nr[p]? = some [dI kd,dI aa,dI op,dI m,K2]) (hc : Cq 49 [.dat (.sl 1 [[dI 3],[dI 4],[dI 8]]),I kd] (B v)) :
  Jq (.call 48 [I p,.ptr l 0] bx) = Rq (B (!v)) := by
 have hp : p < nr.length := (gsi.1 hget).1
 obtain ⟨w1,g1,g2,g3⟩ := hN
 obtain rfl := isS_w g2 hget
 simp only [go_sem,seval,g1,g3,hF,hl,hb,hget,hp,hc,nat_neg,tnc]
theorem leaves_err (hN : Oq N) (hF : Oq F) (hK : Oq K) (hL : Oq L) (hc : Cq 19 [Nq N F,Wq k nd a K L] (I e)) (he : (e != 0) = true) :
  Jq (.call 20 [Nq N F,Wq k nd a K L] bx) = Rq (.tup [.dat .nil,I e]) := by
 simp only [go_sem,seval,hN,hF,hK,hL,hc,he]
theorem leaves_nil (hN : Oq N) (hF : Oq F) (hK : Oq K) (hL : Oq L) (hc : Cq 19 [Nq N F,Wq k nd a K L] (I 0)) (hk : (k == 10) = false)
  (hn : Cq 44 [Nq N F,Wq k nd a K L] (.dat .nil)) :
  Jq (.call 20 [Nq N F,Wq k nd a K L] bx) = Rq (.tup [.dat .nil,I 0]) := by
 have z0 : ((0 : Int) != 0) = false := rfl
 simp only [go_sem,seval,hN,hF,hK,hL,hc,hk,hn,z0]
theorem leaves_own (hN : Oq N) (hF : Oq F) (hK : Oq K) (hL : Oq L) (hc : Cq 19 [Nq N F,Wq k nd a K L] (I 0)) (hk : (k == 10) = false)
  (hn : Cq 44 [Nq N F,Wq k nd a K L] (.own true 1 acc)) (hz : intRows acc = some zs) (hlen : zs.length < 4611686018427387904) (hne : zs ≠ [])
  (hd : delRows (ev cfg) 48 [bx.length] (bx ++ [Nb N F,Wx k nd a K L]) zs = some ys) :
  Jq (.call 20 [Nq N F,Wq k nd a K L] bx) = Rq (.tup [.dat (.sl 1 (rowsOf ys)),I 0]) := by
 have z0 : ((0 : Int) != 0) = false := rfl
 simp (maxSteps := 2000000) only [go_sem,seval,hN,hF,hK,hL,hc,hk,hn,z0,hz,hlen,hne,hd]
theorem leaves_r0 (hN : Oq N) (hF : Oq F) (hK : Oq K) (hL : Oq L) (hlt : i < nr.length) (hmax : nr.length < 9223372036854775808) :
  Jq (.loop 20 7 (qs bx (sh20_7 (P0 bx) (.dat .nil) (I nr.length) (I i)) [Nb N F,Wx k nd a K L])) = ev cfg (.loop 20 7 (qs bx (sh20_7 (P0 bx) (.own true 1 [[dI i]]) (I nr.length) (I ((i + 1 : Nat) : Int))) [Nb N F,Wx k nd a K L])) := by
 simp (maxSteps := 2000000) only [go_sem,seval,hN,hF,hK,hL,nat_lt hlt,nat_succ hlt hmax]
theorem leaves_r1 (hN : Oq N) (hF : Oq F) (hK : Oq K) (hL : Oq L) (hlt : i < nr.length) (hmax : nr.length < 9223372036854775808) (hks : (acc.length + 1) * 8 <= 140737488355328) :
  Jq (.loop 20 7 (qs bx (sh20_7 (P0 bx) (.own true 1 acc) (I nr.length) (I i)) [Nb N F,Wx k nd a K L])) = ev cfg (.loop 20 7 (qs bx (sh20_7 (P0 bx) (.own true 1 (acc ++ [[dI i]])) (I nr.length) (I ((i + 1 : Nat) : Int))) [Nb N F,Wx k nd a K L])) := by
 simp (maxSteps := 2000000) only [go_sem,seval,hN,hF,hK,hL,nat_lt hlt,nat_succ hlt hmax,hks]
theorem leaves_rend (hN : Oq N) (hF : Oq F) (hK : Oq K) (hL : Oq L) {n : Nat} (hge : n <= i) :
  Jq (.loop 20 7 (qs bx (sh20_7 (P0 bx) (.own true 1 acc) (I n) (I i)) [Nb N F,Wx k nd a K L])) = some (.loop (.exit 0) (qs bx (se20_7 (P0 bx) (.own true 1 acc)) [Nb N F,Wx k nd a K L])) := by
 simp only [go_sem,seval,hN,hF,hK,hL,nat_ge hge]
theorem leaves_rules (hN : IsS 5 nr N) (hF : Oq F) (hK : Oq K) (hL : Oq L) (hc : Cq 19 [Nq N F,Wq 10 nd a K L] (I 0))
  (hn : Cq 44 [Nq N F,Wq 10 nd a K L] (.dat .nil))
  (hlp : ev cfg (.loop 20 7 (qs bx (sh20_7 (P0 bx) (.dat .nil) (I nr.length) (I 0)) [Nb N F,Wx 10 nd a K L])) = some (.loop (.exit 0) (qs bx (se20_7 (P0 bx) (.own true 1 acc)) [Nb N F,Wx 10 nd a K L])))
  (hz : intRows acc = some zs) (hlen : zs.length < 4611686018427387904) (hne : zs ≠ [])
  (hd : delRows (ev cfg) 48 [bx.length] (bx ++ [Nb N F,Wx 10 nd a K L]) zs = some ys) :
  Jq (.call 20 [Nq N F,Wq 10 nd a K L] bx) = Rq (.tup [.dat (.sl 1 (rowsOf ys)),I 0]) := by
 have z0 : ((0 : Int) != 0) = false := rfl
 obtain ⟨w1,g1,g2,g3⟩ := hN
 simp (maxSteps := 2000000) only [go_sem,seval,g1,g3,hF,hK,hL,hc,hn,z0,hlp,hz,hlen,hne,hd]
end
end Go.Proofs.YtifckjhggamefaaGreatDoor
