/- Rounds of treenailref10's Check, where all is right. No condition. -/
import Derived.Test.YtifckjhggamefaaGreatDoorPb
import Derived.Test.YtifckjhggamefaaGreatDoorGa
set_option linter.unusedSimpArgs false
set_option linter.unusedVariables false
set_option linter.unusedSectionVars false
namespace Go.Proofs.YtifckjhggamefaaGreatDoor
open Go Go.Vx
set_option maxHeartbeats 8000000
set_option maxRecDepth 10000
section
variable {bx : List Box} {nr fr kr lr ors : List (List D)} {N F K L X K2 L2 K3 : D} {i p m : Nat} {k nd a q kd aa op n2 f t w az zz2 k2 nd2 a2 dp sz ti : Int} {v : Bool}
theorem qkind_f (hN : IsS 5 nr N) (hF : Oq F) (hget : nr[p]? = some [dI kd,dI aa,dI op,dI n2,K3]) :
  Jq (.call 155 [Nq N F,I p] bx) = Rq (I kd) := by
 have hp : p < nr.length := (gsi.1 hget).1
 have h1 : decide ((p : Int) < 0) = false := by simp
 have h2 : decide ((p : Int) >= (nr.length : Int)) = false := by simpa using hp
 obtain ⟨w1,g1,g2,g3⟩ := hN
 obtain rfl := isS_w g2 hget
 simp only [go_sem,seval,g1,g3,hF,hget,hp,h1,h2,nat_neg,tnc]
theorem qsplit_f (hN : Oq N) (hF : Oq F) (hk : Cq 155 [Nq N F,I q] (I kd)) (ho : Cq 55 [Nq N F,I q] (.dat X)) (hX : IsS 1 ors X)
  (c1 : (kd == k) = true) (c2 : ((ors.length : Int) == t) = true) (c3 : decide (t >= 2) = true) :
  Jq (.call 156 [Nq N F,I q,I k,I t] bx) = Rq (B true) := by
 obtain ⟨w1,g1,g2,g3⟩ := hX
 simp only [go_sem,seval,hN,hF,hk,ho,g1,g3,c1,c2,c3]
theorem qlinks_r (hN : Oq N) (hF : IsS 6 fr F) (hK : IsS 5 kr K) (hL : IsS 3 lr L) (hget : lr[i]? = some [dI f,dI t,dI w]) (hlt : i < lr.length) (hmax : lr.length < 1000000) (h1 : decide (f < -1) = false) (h2 : decide (t < -1) = false) (h3 : decide (f >= (kr.length : Int)) = false) (h4 : decide (t >= (kr.length : Int)) = false) (h5 : decide (w < 0) = false) (h6 : decide (w >= (fr.length : Int)) = false)
  (ha : 0 <= az) (ha2 : az < 1000000) (hz : 0 <= zz2) (hz2 : zz2 < 1000000) :
  Jq (.loop 157 4 (qs bx (sh157_4 (P0 bx) (P1 bx) (I az) (I zz2) (.dat L) (I lr.length) (I i)) [Nb N F,Wx k nd a K L])) =
   ev cfg (.loop 157 4 (qs bx (sh157_4 (P0 bx) (P1 bx) (I (if (f == -1) = true then az + 1 else az)) (I (if (t == -1) = true then zz2 + 1 else zz2)) (.dat L) (I lr.length) (I ((i + 1 : Nat) : Int))) [Nb N F,Wx k nd a K L])) := by
 have w0 : IntKind.wrap .i64 (az + 1) = az + 1 := wrap_lo (by omega) (by omega)
 have w1 : IntKind.wrap .i64 (zz2 + 1) = zz2 + 1 := wrap_lo (by omega) (by omega)
 obtain ⟨_,g1,g2,g3⟩ := hF
 obtain ⟨_,p1,p2,p3⟩ := hK
 obtain ⟨_,q1,q2,q3⟩ := hL
 obtain rfl := isS_w q2 hget
 cases c1 : (f == -1) <;> cases c2 : (t == -1) <;> simp only [go_sem,seval,hN,g1,g3,p1,p3,q1,q3,nat_lt hlt,nat_succ hlt (show lr.length < 9223372036854775808 by omega),nat_neg,tnc,hget,hlt,h1,h2,h3,h4,h5,h6,c1,c2,w0,w1]
theorem qlinks_end (hN : Oq N) (hF : Oq F) (hK : Oq K) (hL : Oq L) (hge : m <= i) :
  Jq (.loop 157 4 (qs bx (sh157_4 (P0 bx) (P1 bx) (I az) (I zz2) (.dat L) (I m) (I i)) [Nb N F,Wx k nd a K L])) =
   some (.loop (.exit 0) (qs bx (se157_4 (P1 bx) .dead (I az) (I zz2)) [Nb N F,Wx k nd a K L])) := by
 simp only [go_sem,seval,hN,hF,hK,hL,nat_ge hge]
theorem qlinks_f (hN : Oq N) (hF : Oq F) (hK : Oq K) (hL : IsS 3 lr L)
  (hlp : ev cfg (.loop 157 4 (qs bx (sh157_4 (P0 bx) (P1 bx) (I 0) (I 0) (.dat L) (I lr.length) (I 0)) [Nb N F,Wx k nd a K L])) =
   some (.loop (.exit 0) (qs bx (se157_4 (P1 bx) .dead (I 1) (I 1)) [Nb N F,Wx k nd a K L])))
  (c : decide ((lr.length : Int) <= 40) = true) :
  Jq (.call 157 [Nq N F,Wq k nd a K L] bx) = Rq (B true) := by
 have z1 : ((1 : Int) == 1) = true := rfl
 obtain ⟨_,q1,q2,q3⟩ := hL
 simp only [go_sem,seval,hN,hF,hK,q1,q3,hlp,c,z1]
theorem qone_1 (hN : Oq N) (hF : Oq F) (hK : IsS 5 [] K) (hL : IsS 3 [] L) (hk : Cq 155 [Nq N F,I 0] (I kd)) :
  Jq (.call 131 [Nq N F,Wq 1 0 0 K L] bx) = Rq (B true) := by
 obtain ⟨_,p1,p2,p3⟩ := hK
 obtain ⟨_,q1,q2,q3⟩ := hL
 have e : (([] : List (List D)).length : Int) = 0 := rfl
 simp only [go_sem,seval,hN,hF,p1,p3,q1,q3,hk,e]
theorem qone_2 (hN : Oq N) (hF : Oq F) (hK : IsS 5 [] K) (hL : IsS 3 [] L) (hk : Cq 155 [Nq N F,I nd] (I kd)) (h : kd = 3 ∨ kd = 4 ∨ kd = 8) :
  Jq (.call 131 [Nq N F,Wq 2 nd 0 K L] bx) = Rq (B true) := by
 obtain ⟨_,p1,p2,p3⟩ := hK
 obtain ⟨_,q1,q2,q3⟩ := hL
 have e : (([] : List (List D)).length : Int) = 0 := rfl
 rcases h with rfl | rfl | rfl <;> simp only [go_sem,seval,hN,hF,p1,p3,q1,q3,hk,e]
theorem qone_8 (hN : Oq N) (hF : Oq F) (hK : IsS 5 [] K) (hL : IsS 3 [] L) (hk : Cq 155 [Nq N F,I nd] (I kd)) (h : kd = 5 ∨ kd = 6 ∨ kd = 7) :
  Jq (.call 131 [Nq N F,Wq 8 nd 0 K L] bx) = Rq (B true) := by
 obtain ⟨_,p1,p2,p3⟩ := hK
 obtain ⟨_,q1,q2,q3⟩ := hL
 have e : (([] : List (List D)).length : Int) = 0 := rfl
 rcases h with rfl | rfl | rfl <;> simp only [go_sem,seval,hN,hF,p1,p3,q1,q3,hk,e]
theorem qone_3r (hN : Oq N) (hF : Oq F) (hK : IsS 5 kr K) (hL : Oq L) (hget : kr[i]? = some [dI k2,dI nd2,dI a2,K2,L2]) (hK2 : Oq K2) (hL2 : Oq L2) (hlt : i < kr.length) (hmax : kr.length < 9223372036854775808) (c : (k2 == 3) = false) :
  Jq (.loop 131 13 (qs bx (sh131_13 (P1 bx) (I t) (.dat K) (I kr.length) (I i)) [Nb N F,Wx k nd a K L])) =
   ev cfg (.loop 131 13 (qs bx (sh131_13 (P1 bx) (I t) (.dat K) (I kr.length) (I ((i + 1 : Nat) : Int))) [Nb N F,Wx k nd a K L])) := by
 obtain ⟨_,p1,p2,p3⟩ := hK
 obtain rfl := isS_w p2 hget
 simp only [go_sem,seval,hN,hF,p1,p3,hL,hK2,hL2,nat_lt hlt,nat_succ hlt hmax,nat_neg,tnc,hget,hlt,c]
theorem qone_3e (hN : Oq N) (hF : Oq F) (hK : Oq K) (hL : Oq L) (hge : m <= i) :
  Jq (.loop 131 13 (qs bx (sh131_13 (P1 bx) (I t) (.dat K) (I m) (I i)) [Nb N F,Wx k nd a K L])) =
   some (.loop (.exit 1) (qs bx (se131_13 (P1 bx) .dead (I t)) [Nb N F,Wx k nd a K L])) := by
 simp only [go_sem,seval,hN,hF,hK,hL,nat_ge hge]
theorem qone_3 (hN : Oq N) (hF : Oq F) (hK : IsS 5 kr K) (hL : IsS 3 [] L) (hk : Cq 155 [Nq N F,I 0] (I kd))
  (hlp : ev cfg (.loop 131 13 (qs bx (sh131_13 (P1 bx) (I kr.length) (.dat K) (I kr.length) (I 0)) [Nb N F,Wx 3 0 0 K L])) =
   some (.loop (.exit 1) (qs bx (se131_13 (P1 bx) .dead (I kr.length)) [Nb N F,Wx 3 0 0 K L]))) (c : decide ((kr.length : Int) >= 2) = true) :
  Jq (.call 131 [Nq N F,Wq 3 0 0 K L] bx) = Rq (B true) := by
 obtain ⟨_,p1,p2,p3⟩ := hK
 obtain ⟨_,q1,q2,q3⟩ := hL
 have e : (([] : List (List D)).length : Int) = 0 := rfl
 simp only [go_sem,seval,hN,hF,p1,p3,q1,q3,hk,e,hlp,c]
theorem qone_s (hN : Oq N) (hF : Oq F) (hK : IsS 5 kr K) (hL : IsS 3 [] L) (hk : Cq 155 [Nq N F,I nd] (I kd))
  (hs : Cq 156 [Nq N F,I nd,I q,I kr.length] (B true)) (h : (k = 4 /\ q = 6) ∨ (k = 5 /\ q = 5) ∨ (k = 6 /\ q = 7)) :
  Jq (.call 131 [Nq N F,Wq k nd 0 K L] bx) = Rq (B true) := by
 obtain ⟨_,p1,p2,p3⟩ := hK
 obtain ⟨_,q1,q2,q3⟩ := hL
 have e : (([] : List (List D)).length : Int) = 0 := rfl
 rcases h with ⟨rfl,rfl⟩ | ⟨rfl,rfl⟩ | ⟨rfl,rfl⟩ <;> simp only [go_sem,seval,hN,hF,p1,p3,q1,q3,hk,e,hs]
theorem qone_7 (hN : Oq N) (hF : Oq F) (hK : IsS 5 kr K) (hL : IsS 3 [] L) (hk : Cq 155 [Nq N F,I nd] (I kd))
  (hs : Cq 156 [Nq N F,I nd,I 5,I kr.length] (B true)) (h : a = 0 ∨ a = 1) (h2 : ((kr.length : Int) == 2) = true) :
  Jq (.call 131 [Nq N F,Wq 7 nd a K L] bx) = Rq (B true) := by
 obtain ⟨_,p1,p2,p3⟩ := hK
 obtain ⟨_,q1,q2,q3⟩ := hL
 have e : (([] : List (List D)).length : Int) = 0 := rfl
 rcases h with rfl | rfl <;> simp only [go_sem,seval,hN,hF,p1,p3,q1,q3,hk,e,hs,h2]
theorem qone_9 (hN : Oq N) (hF : Oq F) (hK : IsS 5 kr K) (hL : Oq L) (hk : Cq 155 [Nq N F,I 0] (I kd))
  (hs : Cq 157 [Nq N F,Wq 9 0 0 K L] (B true)) (h2 : decide ((kr.length : Int) >= 1) = true) :
  Jq (.call 131 [Nq N F,Wq 9 0 0 K L] bx) = Rq (B true) := by
 obtain ⟨_,p1,p2,p3⟩ := hK
 simp only [go_sem,seval,hN,hF,p1,p3,hL,hk,hs,h2]
theorem qform_r (hN : Oq N) (hF : Oq F) (hK : IsS 5 kr K) (hL : Oq L) (hget : kr[i]? = some [dI k2,dI nd2,dI a2,K2,L2]) (hK2 : Oq K2) (hL2 : Oq L2) (hlt : i < kr.length) (hmax : kr.length < 9223372036854775808) (c1 : decide (k2 >= 9) = false) (c2 : ((k2 == 8) && (k != 9)) = false)
  (hc : Cq 87 [Nq N F,Wq k2 nd2 a2 K2 L2] (B true)) :
  Jq (.loop 87 4 (qs bx (sh87_4 (P0 bx) (P1 bx) (.dat K) (I kr.length) (I i)) [Nb N F,Wx k nd a K L])) =
   ev cfg (.loop 87 4 (qs bx (sh87_4 (P0 bx) (P1 bx) (.dat K) (I kr.length) (I ((i + 1 : Nat) : Int))) [Nb N F,Wx k nd a K L])) := by
 obtain ⟨_,p1,p2,p3⟩ := hK
 obtain rfl := isS_w p2 hget
 cases c : (k2 == 8)
 ·simp only [go_sem,seval,hN,hF,p1,p3,hL,hK2,hL2,nat_lt hlt,nat_succ hlt hmax,nat_neg,tnc,hget,hlt,c,c1,hc]
 ·rw [c,Bool.true_and] at c2
  simp only [go_sem,seval,hN,hF,p1,p3,hL,hK2,hL2,nat_lt hlt,nat_succ hlt hmax,nat_neg,tnc,hget,hlt,c,c1,c2,hc]
theorem qform_end (hN : Oq N) (hF : Oq F) (hK : Oq K) (hL : Oq L) (hge : m <= i) :
  Jq (.loop 87 4 (qs bx (sh87_4 (P0 bx) (P1 bx) (.dat K) (I m) (I i)) [Nb N F,Wx k nd a K L])) =
   some (.loop (.exit 0) (qs bx (se87_4 .dead) [Nb N F,Wx k nd a K L])) := by
 simp only [go_sem,seval,hN,hF,hK,hL,nat_ge hge]
theorem qform_f (hN : Oq N) (hF : Oq F) (hK : IsS 5 kr K) (hL : Oq L) (ho : Cq 131 [Nq N F,Wq k nd a K L] (B true))
  (hlp : ev cfg (.loop 87 4 (qs bx (sh87_4 (P0 bx) (P1 bx) (.dat K) (I kr.length) (I 0)) [Nb N F,Wx k nd a K L])) =
   some (.loop (.exit 0) (qs bx (se87_4 .dead) [Nb N F,Wx k nd a K L]))) :
  Jq (.call 87 [Nq N F,Wq k nd a K L] bx) = Rq (B true) := by
 obtain ⟨_,p1,p2,p3⟩ := hK
 simp only [go_sem,seval,hN,hF,p1,p3,hL,ho,hlp]
theorem qcheck_r (hN : Oq N) (hF : Oq F) (hK : Oq K) (hL : Oq L) (hlt : i < m) (hmax : m < 9223372036854775808)
  (hc : Cq 88 [Nq N F,Wq k nd a K L,I i] (I ti)) (c : decide (ti > 1) = false) :
  Jq (.loop 53 8 (qs bx (sh53_8 (P0 bx) (P1 bx) (I m) (I i)) [Nb N F,Wx k nd a K L])) =
   ev cfg (.loop 53 8 (qs bx (sh53_8 (P0 bx) (P1 bx) (I m) (I ((i + 1 : Nat) : Int))) [Nb N F,Wx k nd a K L])) := by
 simp only [go_sem,seval,hN,hF,hK,hL,nat_lt hlt,nat_succ hlt hmax,hc,c]
theorem qcheck_8 (hN : Oq N) (hF : Oq F) (hK : Oq K) (hL : Oq L) (hlt : i < m)
  (hc : Cq 88 [Nq N F,Wq k nd a K L,I i] (I ti)) (c : decide (ti > 1) = true) :
  Jq (.loop 53 8 (qs bx (sh53_8 (P0 bx) (P1 bx) (I m) (I i)) [Nb N F,Wx k nd a K L])) =
   some (.loop .ret (qs bx (se53_8 (I 8)) [Nb N F,Wx k nd a K L])) := by
 simp only [go_sem,seval,hN,hF,hK,hL,nat_lt hlt,hc,c]
theorem qcheck_end (hN : Oq N) (hF : Oq F) (hK : Oq K) (hL : Oq L) (hge : m <= i) :
  Jq (.loop 53 8 (qs bx (sh53_8 (P0 bx) (P1 bx) (I m) (I i)) [Nb N F,Wx k nd a K L])) =
   some (.loop (.exit 0) (qs bx (se53_8 .dead) [Nb N F,Wx k nd a K L])) := by
 simp only [go_sem,seval,hN,hF,hK,hL,nat_ge hge]
theorem qcheck_f (hN : IsS 5 nr N) (hF : Oq F) (hK : Oq K) (hL : Oq L) (h5 : Cq 18 [Nq N F] (.agg [I 0,I q]))
  (hd : Cq 85 [Wq k nd a K L] (I dp)) (hs : Cq 86 [Wq k nd a K L] (I sz)) (c1 : decide (dp > 24) = false) (c2 : decide (sz > 96) = false)
  (hf : Cq 87 [Nq N F,Wq k nd a K L] (B true))
  (hlp : ev cfg (.loop 53 8 (qs bx (sh53_8 (P0 bx) (P1 bx) (I nr.length) (I 0)) [Nb N F,Wx k nd a K L])) =
   (if v = true then some (.loop .ret (qs bx (se53_8 (I 8)) [Nb N F,Wx k nd a K L])) else some (.loop (.exit 0) (qs bx (se53_8 .dead) [Nb N F,Wx k nd a K L])))) :
  Jq (.call 53 [Nq N F,Wq k nd a K L] bx) = Rq (I (if v = true then 8 else 0)) := by
 have z0 : ((0 : Int) != 0) = false := rfl
 obtain ⟨_,g1,g2,g3⟩ := hN
 cases v
 ·rw [if_neg (by decide)] at hlp
  simp only [go_sem,seval,g1,g3,hF,hK,hL,h5,hd,hs,c1,c2,hf,hlp,z0]
 ·rw [if_pos rfl] at hlp
  simp only [go_sem,seval,g1,g3,hF,hK,hL,h5,hd,hs,c1,c2,hf,hlp,z0]
end
section
variable {bx : List Box} {kr xr yr xn yn : List (List D)} {N F K L I2 O2 K2 L2 K3 L3 : D} {c c2 c3 : Box} {Y : PV} {i l m : Nat} {k nd a q e k2 nd2 a2 : Int}
theorem fright_l (hl : l < bx.length) (hb : bx[l]? = some [.dat N,.dat F,.own true 5 kr,Y]) (hget : kr[i]? = some [dI k2,dI nd2,dI a2,K2,L2]) (hK2 : Oq K2) (hL2 : Oq L2) (hlt : i < kr.length) (hmax : kr.length < 9223372036854775808) (ck : (k2 == 8) = false)
  (hi : ∀ r : Box,ev cfg (.call 83 [.ptr l 0,I i] (bx ++ [r])) = Rq (.own true 1 xr)) (ho : ∀ r : Box,ev cfg (.call 84 [.ptr l 0,I i] (bx ++ [r])) = Rq (.own true 1 yr)) (c1 : ((xr.length : Int) != 1) = false) (c2 : ((yr.length : Int) != 1) = false) :
  Jq (.loop 50 2 (q0 bx (sh50_2 (.ptr l 0) (.alias (.cell l 2)) (I kr.length) (I i)))) =
   ev cfg (.loop 50 2 (q0 bx (sh50_2 (.ptr l 0) (.alias (.cell l 2)) (I kr.length) (I ((i + 1 : Nat) : Int))))) := by
 simp only [go_sem,seval,hl,hb,hget,hK2,hL2,nat_lt hlt,nat_succ hlt hmax,nat_neg,tnc,hlt,ck,hi,ho,c1,c2]
theorem fright_g (hl : l < bx.length) (hb : bx[l]? = some [.dat N,.dat F,.own true 5 kr,Y]) (hN : Oq N) (hF : Oq F) (hget : kr[i]? = some [dI 8,dI nd2,dI a2,K2,L2]) (hK2 : Oq K2) (hL2 : Oq L2) (hlt : i < kr.length) (hmax : kr.length < 9223372036854775808)
  (hni : ∀ r : Box,ev cfg (.call 82 [Nq N F,I nd2] (bx ++ [r])) = Rq (.dat I2)) (hI : IsS 1 xn I2) (hno : ∀ r : Box,ev cfg (.call 78 [Nq N F,I nd2] (bx ++ [r])) = Rq (.dat O2)) (hO : IsS 1 yn O2)
  (hi : ∀ r : Box,ev cfg (.call 83 [.ptr l 0,I i] (bx ++ [r])) = Rq (.own true 1 xr)) (ho : ∀ r : Box,ev cfg (.call 84 [.ptr l 0,I i] (bx ++ [r])) = Rq (.own true 1 yr)) (c1 : ((xr.length : Int) != (xn.length : Int)) = false) (c2 : ((yr.length : Int) != (yn.length : Int)) = false) :
  Jq (.loop 50 2 (q0 bx (sh50_2 (.ptr l 0) (.alias (.cell l 2)) (I kr.length) (I i)))) =
   ev cfg (.loop 50 2 (q0 bx (sh50_2 (.ptr l 0) (.alias (.cell l 2)) (I kr.length) (I ((i + 1 : Nat) : Int))))) := by
 have z8 : ((8 : Int) == 8) = true := rfl
 obtain ⟨_,p1,p2,p3⟩ := hI
 obtain ⟨_,q1,q2,q3⟩ := hO
 simp only [go_sem,seval,hl,hb,hN,hF,hget,hK2,hL2,nat_lt hlt,nat_succ hlt hmax,nat_neg,tnc,hlt,z8,hni,hno,p1,p3,q1,q3,hi,ho,c1,c2]
theorem fright_end (hl : l < bx.length) (hge : m <= i) :
  Jq (.loop 50 2 (q0 bx (sh50_2 (.ptr l 0) (.alias (.cell l 2)) (I m) (I i)))) = some (.loop (.exit 0) (q0 bx (se50_2 .dead))) := by
 simp only [go_sem,seval,hl,nat_ge hge]
theorem fright_f (hl : l < bx.length) (hb : bx[l]? = some [.dat N,.dat F,.own true 5 kr,Y])
  (hlp : ev cfg (.loop 50 2 (q0 bx (sh50_2 (.ptr l 0) (.alias (.cell l 2)) (I kr.length) (I 0)))) = some (.loop (.exit 0) (q0 bx (se50_2 .dead)))) :
  Jq (.call 50 [.ptr l 0] bx) = Rq (B true) := by
 simp only [go_sem,seval,hl,hb,hlp]
theorem fStep_go (hN : Oq N) (hF : Oq F) (hK : Oq K) (hL : Oq L) (h5 : ∀ r0 r1 r2 : Box,ev cfg (.call 33 [Nq N F] (bx ++ [r0,r1,r2])) = Rq (.tup [I 0,I q]))
  (hof : ∀ r0 r1 r2 : Box,ev cfg (.call 27 [Nq N F,Wq 9 0 0 K L] (bx ++ [r0,r1,r2])) = some (.ret (P5 bx) (some ⟨bx ++ [r0,r1,r2,Nb N F,Wx 9 0 0 K L,c],bx.length + 3,false⟩)))
  (hc : Cq 19 [Nq N F,Wq 9 0 0 K L] (I e)) (he : e = 0 ∨ e = 8)
  (yc : c.all (cellLt (bx.length + 6)) = true) (yd : c2.all (cellLt (bx.length + 6)) = true)
  (hr : ∀ r0 r1 r2 r3 r4 : Box,ev cfg (.call 50 [P5 bx] (bx ++ [r0,r1,r2,r3,r4,c])) = Rq (B true))
  (hs : ∀ r0 r1 r2 r3 r4 : Box,ev cfg (.call 28 [P5 bx] (bx ++ [r0,r1,r2,r3,r4,c])) = some (.ret (I k) (some ⟨bx ++ [r0,r1,r2,r3,r4,c2],bx.length + 5,false⟩)))
  (hw : ∀ r0 r1 r2 r3 r4 : Box,ev cfg (.call 30 [P5 bx] (bx ++ [r0,r1,r2,r3,r4,c2])) = some (.ret (Wq 9 0 0 K3 L3) (some ⟨bx ++ [r0,r1,r2,r3,r4,c3],bx.length + 5,false⟩))) (o3 : Oq K3) (o4 : Oq L3) :
  Jq (.call 22 [Nq N F,Wq 9 0 0 K L] bx) = Rq (.tup [Wq 9 0 0 K3 L3,I k,I 0]) := by
 have z0 : ((0 : Int) != 0) = false := rfl
 have z8 : ((8 : Int) != 0) = true := rfl
 have z88 : ((8 : Int) != 8) = false := rfl
 have z9 : ((9 : Int) != 9) = false := rfl
 rcases he with rfl | rfl <;> simp only [go_sem,seval,hN,hF,hK,hL,h5,hof,hc,hr,hs,hw,o3,o4,yc,yd,z0,z8,z88,z9]
theorem fStep_stop (hN : Oq N) (hF : Oq F) (hK : Oq K) (hL : Oq L) (h5 : ∀ r0 r1 r2 : Box,ev cfg (.call 33 [Nq N F] (bx ++ [r0,r1,r2])) = Rq (.tup [I 0,I q]))
  (hof : ∀ r0 r1 r2 : Box,ev cfg (.call 27 [Nq N F,Wq 9 0 0 K L] (bx ++ [r0,r1,r2])) = some (.ret (P5 bx) (some ⟨bx ++ [r0,r1,r2,Nb N F,Wx 9 0 0 K L,c],bx.length + 3,false⟩)))
  (hc : Cq 19 [Nq N F,Wq 9 0 0 K L] (I e)) (he : e = 0 ∨ e = 8)
  (yc : c.all (cellLt (bx.length + 6)) = true)
  (hr : ∀ r0 r1 r2 r3 r4 : Box,ev cfg (.call 50 [P5 bx] (bx ++ [r0,r1,r2,r3,r4,c])) = Rq (B true))
  (hs : ∀ r0 r1 r2 r3 r4 : Box,ev cfg (.call 28 [P5 bx] (bx ++ [r0,r1,r2,r3,r4,c])) = Rq (I 0))
  (hw : ∀ r0 r1 r2 r3 r4 : Box,ev cfg (.call 30 [P5 bx] (bx ++ [r0,r1,r2,r3,r4,c])) = some (.ret (Wq 9 0 0 K3 L3) (some ⟨bx ++ [r0,r1,r2,r3,r4,c3],bx.length + 5,false⟩))) (o3 : Oq K3) (o4 : Oq L3) :
  Jq (.call 22 [Nq N F,Wq 9 0 0 K L] bx) = Rq (.tup [Wq 9 0 0 K3 L3,I 0,I 0]) := by
 have z0 : ((0 : Int) != 0) = false := rfl
 have z8 : ((8 : Int) != 0) = true := rfl
 have z88 : ((8 : Int) != 8) = false := rfl
 have z9 : ((9 : Int) != 9) = false := rfl
 rcases he with rfl | rfl <;> simp only [go_sem,seval,hN,hF,hK,hL,h5,hof,hc,hr,hs,hw,o3,o4,yc,z0,z8,z88,z9]
theorem qwrong_l (hN : Oq N) (hF : Oq F) (hK : IsS 5 kr K) (hL : Oq L) (hget : kr[i]? = some [dI k2,dI nd2,dI a2,K2,L2]) (hK2 : Oq K2) (hL2 : Oq L2) (hlt : i < kr.length) (hmax : kr.length < 9223372036854775808) (ck : (k2 == 8) = false)
  (hi : Cq 56 [Wq k nd a K L,I i] (.own true 1 xr)) (ho : Cq 57 [Wq k nd a K L,I i] (.own true 1 yr)) (c1 : ((xr.length : Int) != 1) = false) (c2 : ((yr.length : Int) != 1) = false) :
  Jq (.loop 24 7 (qs bx (sh24_7 (P0 bx) (P1 bx) (.dat K) (I kr.length) (I i)) [Nb N F,Wx k nd a K L])) =
   ev cfg (.loop 24 7 (qs bx (sh24_7 (P0 bx) (P1 bx) (.dat K) (I kr.length) (I ((i + 1 : Nat) : Int))) [Nb N F,Wx k nd a K L])) := by
 obtain ⟨_,p1,p2,p3⟩ := hK
 obtain rfl := isS_w p2 hget
 simp only [go_sem,seval,hN,hF,p1,p3,hL,hget,hK2,hL2,nat_lt hlt,nat_succ hlt hmax,nat_neg,tnc,hlt,ck,hi,ho,c1,c2]
theorem qwrong_g (hN : Oq N) (hF : Oq F) (hK : IsS 5 kr K) (hL : Oq L) (hget : kr[i]? = some [dI 8,dI nd2,dI a2,K2,L2]) (hK2 : Oq K2) (hL2 : Oq L2) (hlt : i < kr.length) (hmax : kr.length < 9223372036854775808)
  (hni : Cq 54 [Nq N F,I nd2] (.dat I2)) (hI : IsS 1 xn I2) (hno : Cq 55 [Nq N F,I nd2] (.dat O2)) (hO : IsS 1 yn O2)
  (hi : Cq 56 [Wq k nd a K L,I i] (.own true 1 xr)) (ho : Cq 57 [Wq k nd a K L,I i] (.own true 1 yr)) (c1 : ((xr.length : Int) != (xn.length : Int)) = false) (c2 : ((yr.length : Int) != (yn.length : Int)) = false) :
  Jq (.loop 24 7 (qs bx (sh24_7 (P0 bx) (P1 bx) (.dat K) (I kr.length) (I i)) [Nb N F,Wx k nd a K L])) =
   ev cfg (.loop 24 7 (qs bx (sh24_7 (P0 bx) (P1 bx) (.dat K) (I kr.length) (I ((i + 1 : Nat) : Int))) [Nb N F,Wx k nd a K L])) := by
 have z8 : ((8 : Int) == 8) = true := rfl
 obtain ⟨_,p1,p2,p3⟩ := hK
 obtain rfl := isS_w p2 hget
 obtain ⟨_,q1,q2,q3⟩ := hI
 obtain ⟨_,r1,r2,r3⟩ := hO
 simp only [go_sem,seval,hN,hF,p1,p3,hL,hget,hK2,hL2,nat_lt hlt,nat_succ hlt hmax,nat_neg,tnc,hlt,z8,hni,hno,q1,q3,r1,r3,hi,ho,c1,c2]
theorem qwrong_end (hN : Oq N) (hF : Oq F) (hK : Oq K) (hL : Oq L) (hge : m <= i) :
  Jq (.loop 24 7 (qs bx (sh24_7 (P0 bx) (P1 bx) (.dat K) (I m) (I i)) [Nb N F,Wx k nd a K L])) =
   some (.loop (.exit 0) (qs bx (se24_7 .dead) [Nb N F,Wx k nd a K L])) := by
 simp only [go_sem,seval,hN,hF,hK,hL,nat_ge hge]
theorem qwrong_f (hN : Oq N) (hF : Oq F) (hK : IsS 5 kr K) (hL : Oq L) (h5 : Cq 18 [Nq N F] (.agg [I 0,I q]))
  (hc : Cq 53 [Nq N F,Wq 9 0 0 K L] (I e)) (he : e = 0 ∨ e = 8)
  (hlp : ev cfg (.loop 24 7 (qs bx (sh24_7 (P0 bx) (P1 bx) (.dat K) (I kr.length) (I 0)) [Nb N F,Wx 9 0 0 K L])) =
   some (.loop (.exit 0) (qs bx (se24_7 .dead) [Nb N F,Wx 9 0 0 K L]))) :
  Jq (.call 24 [Nq N F,Wq 9 0 0 K L] bx) = Rq (I 0) := by
 have z0 : ((0 : Int) != 0) = false := rfl
 have z8 : ((8 : Int) != 0) = true := rfl
 have z88 : ((8 : Int) != 8) = false := rfl
 have z9 : ((9 : Int) != 9) = false := rfl
 obtain ⟨_,p1,p2,p3⟩ := hK
 rcases he with rfl | rfl <;> simp only [go_sem,seval,hN,hF,p1,p3,hL,h5,hc,hlp,z0,z8,z88,z9]
end
theorem isB_one {b : Blk} {k n a : Int} {K L : D} (h : IsB b k n a K L) : Oq K /\ Oq L := by
 cases b
 rw [IsB] at h
 obtain ⟨_,_,_,_,_,_,rows,⟨_,_,_,h1⟩,_,_,⟨_,_,_,h2⟩,_⟩ := h
 exact ⟨h1,h2⟩
section
variable {bx : List Box} {acc : List (List D)} {N F K L K2 L2 : D} {l l0 : Nat} {k a n k2 n2 a2 r q : Int} {v : Bool}
theorem clone_nil : Jq (.call 46 [.dat .nil] bx) = Rq (.dat .nil) := by
 simp only [go_sem,seval]
theorem clone_rows {r : List D} {rs : List (List D)} (hks : (rs.length + 1) * 8 <= 140737488355328) : Jq (.call 46 [.dat (.sl 1 (r :: rs))] bx) = Rq (.own true 1 (r :: rs)) := by
 simp only [go_sem,seval,hks]
theorem nest1_f (hK : Oq K2) (hL : Oq L2) (hN : Oq N) (hF : Oq F) (hl0 : l0 < bx.length) (hl : l < bx.length) (b0 : bx[l0]? = some (Wx k n a K L)) (b1 : bx[l]? = some (Nb N F))
  (hv : Cq 43 [Nq N F,Wq k2 n2 a2 K2 L2] (B v)) :
  Jq (.call 75 [Wq k2 n2 a2 K2 L2,.ptr l0 0,.ptr l 0] bx) = Rq (B (k2 == 9 || (k2 == 10 || ((k2 == 8 && k != 9) || !v)))) := by
 cases c0 : (k2 == 9)
 ·cases c1 : (k2 == 10)
  ·cases c2 : (k2 == 8)
   ·simp only [go_sem,seval,hK,hL,hN,hF,hl0,hl,b0,b1,hv,c0,c1,c2]
   ·cases c3 : (k != 9)
    ·simp only [go_sem,seval,hK,hL,hN,hF,hl0,hl,b0,b1,hv,c0,c1,c2,c3]
    ·simp only [go_sem,seval,hK,hL,hN,hF,hl0,hl,b0,b1,hv,c0,c1,c2,c3]
  ·simp only [go_sem,seval,hK,hL,hN,hF,hl0,hl,b0,b1,hv,c0,c1]
 ·simp only [go_sem,seval,hK,hL,hN,hF,hl0,hl,b0,b1,hv,c0]
theorem nest_no (hK : Oq K) (hL : Oq L) (hN : Oq N) (hF : Oq F) (hr : Cq 73 [Nq N F,Wq k n a K L] (B false)) :
  Jq (.call 43 [Nq N F,Wq k n a K L] bx) = Rq (B false) := by
 simp only [go_sem,seval,hK,hL,hN,hF,hr]
theorem nest_f (hK : Oq K) (hL : Oq L) (hN : Oq N) (hF : Oq F) (hr : Cq 73 [Nq N F,Wq k n a K L] (B true))
  (hv : ev cfg (.call 74 [.dat K,.clo 75 [bx.length + 1,bx.length]] (bx ++ [Nb N F,Wx k n a K L])) = Rq (B v)) :
  Jq (.call 43 [Nq N F,Wq k n a K L] bx) = Rq (B (!v)) := by
 simp only [go_sem,seval,hK,hL,hN,hF,hr,hv]
theorem bcheck_arg (hK : Oq K) (hL : Oq L) (hN : Oq N) (hF : Oq F) (hn : Cq 33 [Nq N F] (.tup [I r,I q])) (hr : (r != 0) = true) :
  Jq (.call 19 [Nq N F,Wq k n a K L] bx) = Rq (I 1) := by
 simp only [go_sem,seval,hK,hL,hN,hF,hn,hr]
theorem bcheck_long (hK : Oq K) (hL : Oq L) (hN : Oq N) (hF : Oq F) (hn : Cq 33 [Nq N F] (.tup [I 0,I q])) (hlg : Cq 42 [Wq k n a K L] (B true)) :
  Jq (.call 19 [Nq N F,Wq k n a K L] bx) = Rq (I 2) := by
 simp only [go_sem,seval,hK,hL,hN,hF,hn,hlg]
theorem bcheck_form (hK : Oq K) (hL : Oq L) (hN : Oq N) (hF : Oq F) (hn : Cq 33 [Nq N F] (.tup [I 0,I q])) (hlg : Cq 42 [Wq k n a K L] (B false)) (hns : Cq 43 [Nq N F,Wq k n a K L] (B false)) :
  Jq (.call 19 [Nq N F,Wq k n a K L] bx) = Rq (I 4) := by
 simp only [go_sem,seval,hK,hL,hN,hF,hn,hlg,hns]
theorem bcheck_nil (hK : Oq K) (hL : Oq L) (hN : Oq N) (hF : Oq F) (hn : Cq 33 [Nq N F] (.tup [I 0,I q])) (hlg : Cq 42 [Wq k n a K L] (B false)) (hns : Cq 43 [Nq N F,Wq k n a K L] (B true)) (hno : Cq 44 [Nq N F,Wq k n a K L] (.dat .nil)) (hcl : Cq 46 [.dat .nil] (.dat .nil)) :
  Jq (.call 19 [Nq N F,Wq k n a K L] bx) = Rq (I 0) := by
 have z0 : decide (((0 : Nat) : Int) < ((0 : Nat) : Int)) = false := by decide
 simp only [go_sem,seval,hK,hL,hN,hF,hn,hlg,hns,hno,hcl,z0]
theorem bcheck_same {zs : List Int} (hK : Oq K) (hL : Oq L) (hN : Oq N) (hF : Oq F) (hn : Cq 33 [Nq N F] (.tup [I 0,I q])) (hlg : Cq 42 [Wq k n a K L] (B false)) (hns : Cq 43 [Nq N F,Wq k n a K L] (B true)) (hno : Cq 44 [Nq N F,Wq k n a K L] (.own true 1 acc)) (hcl : Cq 46 [.dat (.sl 1 acc)] (.own true 1 acc)) (hz : intRows acc = some zs) (hzl : zs.length < 4611686018427387904) (hlt : decide (((rowsOf (Lib.compact zs)).length : Int) < (acc.length : Int)) = true) :
  Jq (.call 19 [Nq N F,Wq k n a K L] bx) = Rq (I 8) := by
 simp only [go_sem,seval,hK,hL,hN,hF,hn,hlg,hns,hno,hcl,hz,hzl,hlt]
theorem bcheck_ok {zs : List Int} (hK : Oq K) (hL : Oq L) (hN : Oq N) (hF : Oq F) (hn : Cq 33 [Nq N F] (.tup [I 0,I q])) (hlg : Cq 42 [Wq k n a K L] (B false)) (hns : Cq 43 [Nq N F,Wq k n a K L] (B true)) (hno : Cq 44 [Nq N F,Wq k n a K L] (.own true 1 acc)) (hcl : Cq 46 [.dat (.sl 1 acc)] (.own true 1 acc)) (hz : intRows acc = some zs) (hzl : zs.length < 4611686018427387904) (hlt : decide (((rowsOf (Lib.compact zs)).length : Int) < (acc.length : Int)) = false) :
  Jq (.call 19 [Nq N F,Wq k n a K L] bx) = Rq (I 0) := by
 simp only [go_sem,seval,hK,hL,hN,hF,hn,hlg,hns,hno,hcl,hz,hzl,hlt]
end
end Go.Proofs.YtifckjhggamefaaGreatDoor
