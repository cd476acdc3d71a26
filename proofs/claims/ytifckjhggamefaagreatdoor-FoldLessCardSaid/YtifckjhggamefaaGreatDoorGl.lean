/- Rounds of fold.Begin: the ends, the call. No condition. -/
import Derived.Test.YtifckjhggamefaaGreatDoorPb
set_option linter.unusedSimpArgs false
set_option linter.unusedVariables false
set_option linter.unusedSectionVars false
namespace Go.Proofs.YtifckjhggamefaaGreatDoor
open Go Go.Vx
set_option maxHeartbeats 4000000
set_option maxRecDepth 10000
section
variable {bx : List Box} {pr ks ls nr fr : List (List D)} {N F : D} {i : Nat} {k a m : Int}
theorem fbegin_kend (hN : Oq N) (hF : Oq F) {m : Nat} (hge : m <= i) :
  Jq (.loop 11 7 (qs bx (sh11_7 (P0 bx) (P1 bx) (P2 bx) (.own true 1 pr) (.dat N) (I m) (I i)) [Nb N F,E6,[I 9,I 0,I 0,mkS 5 ks,.dat .nil]])) = some (.loop (.exit 0) (qs bx (se11_7 (P0 bx) (P1 bx) (P2 bx) (.own true 1 pr)) [Nb N F,E6,[I 9,I 0,I 0,mkS 5 ks,.dat .nil]])) := by
 cases ks <;> simp only [go_sem,seval,mkS,hN,hF,nat_ge hge]
theorem fbegin_lend (hN : Oq N) (hF : Oq F) {m : Nat} (hge : m <= i) :
  Jq (.loop 11 22 (qs bx (sh11_22 (P1 bx) (P2 bx) (.own true 1 pr) (.dat F) (I m) (I i)) [Nb N F,E6,[I 9,I 0,I 0,mkS 5 ks,mkS 3 ls]])) = some (.loop (.exit 3) (qs bx (se11_22 (P1 bx) (P2 bx)) [Nb N F,E6,[I 9,I 0,I 0,mkS 5 ks,mkS 3 ls]])) := by
 cases ks <;> cases ls <;> simp only [go_sem,seval,mkS,hN,hF,nat_ge hge]
theorem fbegin_err (hN : Oq N) (hF : Oq F) (hc : ∀ r0 r1 : Box,ev cfg (.call 33 [Nq N F] (bx ++ [r0,r1])) = Rq (.tup [I k,I a])) (hk : (k != 0) = true) :
  Jq (.call 11 [Nq N F] bx) = Rq (.tup [Wq 0 0 0 .nil .nil,I 4]) := by
 simp only [go_sem,seval,hN,hF,hc,hk]
theorem fbegin_f (hN : IsS 5 nr N) (hF : IsS 6 fr F) (hc : ∀ r0 r1 : Box,ev cfg (.call 33 [Nq N F] (bx ++ [r0,r1])) = Rq (.tup [I k,I a])) (hk : (k != 0) = false) (hbig : nr.length * 8 <= 140737488355328)
  (h1 : ev cfg (.loop 11 7 (qs bx (sh11_7 (P0 bx) (P1 bx) (P2 bx) (.own true 1 (List.replicate nr.length [dI 0])) (.dat N) (I nr.length) (I 0)) [Nb N F,E6,Wx 9 0 0 .nil .nil])) = some (.loop (.exit 0) (qs bx (se11_7 (P0 bx) (P1 bx) (P2 bx) (.own true 1 pr)) [Nb N F,E6,[I 9,I 0,I 0,mkS 5 ks,.dat .nil]])))
  (h2 : ev cfg (.loop 11 22 (qs bx (sh11_22 (P1 bx) (P2 bx) (.own true 1 pr) (.dat F) (I fr.length) (I 0)) [Nb N F,E6,[I 9,I 0,I 0,mkS 5 ks,.dat .nil]])) = some (.loop (.exit 3) (qs bx (se11_22 (P1 bx) (P2 bx)) [Nb N F,E6,[I 9,I 0,I 0,mkS 5 ks,mkS 3 ls]]))) :
  Jq (.call 11 [Nq N F] bx) = Rq (.tup [Wq 9 0 0 (mkD 5 ks) (mkD 3 ls),I 0]) := by
 have hz : (0 : Int) <= (nr.length : Int) := by omega
 obtain ⟨w1,g1,g2,g3⟩ := hN
 obtain ⟨w2,q1,q2,q3⟩ := hF
 cases ks <;> cases ls <;> simp only [mkS] at h1 h2 <;> simp only [go_sem,seval,mkS,mkD,g1,g3,q1,q3,hc,hk,hbig,hz,nat_neg,tnc,h1,h2]
end
section
variable {bx : List Box} {N F : D} {Y : PV} {l : Nat}
theorem finrow_nil (hl : l < bx.length) (hb : bx[l]? = some [.dat N,.dat F,.dat .nil,Y])
  (hloop : ev cfg (.loop 62 2 (q0 bx (sh62_2 (.ptr l 0) (I 0) (I 0)))) = some (.loop (.exit 0) (q0 bx (se62_2 .dead)))) :
  Jq (.call 62 [.ptr l 0] bx) = Rq (B false) := by
 simp only [go_sem,seval,hl,hb,hloop]
theorem fclosed_nil (hl : l < bx.length) (hb : bx[l]? = some [.dat N,.dat F,.dat .nil,Y])
  (hloop : ev cfg (.loop 63 2 (q0 bx (sh63_2 (.ptr l 0) (I 0) (I 0)))) = some (.loop (.exit 0) (q0 bx (se63_2 .dead)))) :
  Jq (.call 63 [.ptr l 0] bx) = Rq (B false) := by
 simp only [go_sem,seval,hl,hb,hloop]
theorem fround_nil (hl : l < bx.length) (hb : bx[l]? = some [.dat N,.dat F,.dat .nil,Y])
  (hloop : ev cfg (.loop 64 2 (q0 bx (sh64_2 (.ptr l 0) (I 0) (I 0)))) = some (.loop (.exit 0) (q0 bx (se64_2 .dead)))) :
  Jq (.call 64 [.ptr l 0] bx) = Rq (B false) := by
 simp only [go_sem,seval,hl,hb,hloop]
end
set_option maxHeartbeats 8000000
section
variable {nr kr lr kr3 lr3 : List (List D)} {N F K L K3 L3 R M : D} {i : Nat} {k ti r q : Int} {v : Bool}
theorem fless_big (hN : Oq N) (hF : Oq F) (hlg : Cq 7 [Nq N F] (B true)) (ha : ∀ b0 : Box,ev cfg (.call 8 [] [b0]) = Rq (B true)) :
  Jq (.call 6 [Nq N F,I ti] []) = Rq (B true) := by
 simp only [go_sem,seval,hN,hF,hlg,ha]
theorem fless_alt (hN : Oq N) (hF : Oq F) (hlg : Cq 7 [Nq N F] (B v)) (h5 : Cq 18 [Nq N F] (.agg [I r,I q]))
  (ha : ∀ b0 : Box,ev cfg (.call 8 [] [b0]) = Rq (B true)) (hv : (v || (decide (ti < 0) || (decide (ti > 60) || (r != 0)))) = true) :
  Jq (.call 6 [Nq N F,I ti] []) = Rq (B true) := by
 cases v
 ·rw [Bool.false_or] at hv
  cases c1 : decide (ti < 0)
  ·rw [c1,Bool.false_or] at hv
   cases c2 : decide (ti > 60)
   ·rw [c2,Bool.false_or] at hv
    simp only [go_sem,seval,hN,hF,hlg,h5,ha,c1,c2,hv]
   ·simp only [go_sem,seval,hN,hF,hlg,h5,ha,c1,c2]
  ·simp only [go_sem,seval,hN,hF,hlg,h5,ha,c1]
 ·simp only [go_sem,seval,hN,hF,hlg,h5,ha]
theorem fless_nil (hN : IsS 5 nr N) (hF : Oq F) (hlg : Cq 7 [Nq N F] (B false)) (h5 : Cq 18 [Nq N F] (.agg [I 0,I q]))
  (ha : ∀ b0 b1 : Box,ev cfg (.call 8 [] [b0,b1]) = Rq (B true)) (c1 : decide (ti < 0) = false) (c2 : decide (ti > 60) = false)
  (hb : ∀ b0 : Box,ev cfg (.call 11 [Nq N F] [b0]) = Rq (.tup [Wq 9 0 0 K L,I 0])) (hK : IsS 5 [] K) (hL : Oq L) (h2 : ((nr.length : Int) == 2) = true) :
  Jq (.call 6 [Nq N F,I ti] []) = Rq (B true) := by
 have z0 : ((0 : Int) != 0) = false := rfl
 have e : (([] : List (List D)).length : Int) = 0 := rfl
 obtain ⟨_,g1,g2,g3⟩ := hN
 obtain ⟨_,p1,p2,p3⟩ := hK
 simp only [go_sem,seval,g1,g3,hF,hlg,h5,ha,c1,c2,hb,p1,p3,hL,e,z0,h2]
theorem fless_end (hN : Oq N) (hF : Oq F) (hK : Oq K) (hL : Oq L) (c : decide ((i : Int) < ti) = false) :
  Jq (.loop 6 9 ⟨(sh6_9 (I ti) (.ptr 0 0) (.ptr 1 0) (I i)),[Nb N F,Wx 9 0 0 K L],0,none,false⟩) =
   some (.loop (.exit 0) ⟨(se6_9 .dead),[Nb N F,Wx 9 0 0 K L],0,none,false⟩) := by
 simp only [go_sem,seval,hN,hF,hK,hL,c]
theorem fless_stop (hN : Oq N) (hF : Oq F) (hK : Oq K) (hL : Oq L) (c : decide ((i : Int) < ti) = true)
  (hs : ev cfg (.call 22 [Nq N F,Wq 9 0 0 K L] [Nb N F,Wx 9 0 0 K L]) = Rq (.tup [Wq 9 0 0 K3 L3,I 0,I 0])) (o3 : Oq K3) (o4 : Oq L3)
  (he : Cq 23 [Wq 9 0 0 K3 L3,Wq 9 0 0 K L] (B true)) (ha : ∀ b0 b1 b2 : Box,ev cfg (.call 8 [] [b0,b1,b2]) = Rq (B true)) :
  Jq (.loop 6 9 ⟨(sh6_9 (I ti) (.ptr 0 0) (.ptr 1 0) (I i)),[Nb N F,Wx 9 0 0 K L],0,none,false⟩) =
   some (.loop .ret ⟨(se6_9 (B true)),[Nb N F,Wx 9 0 0 K L],0,none,false⟩) := by
 have z0 : ((0 : Int) != 0) = false := rfl
 have z1 : ((0 : Int) == 0) = true := rfl
 have z2 : decide ((0 : Int) < 0) = false := rfl
 have z3 : decide ((0 : Int) > 3) = false := rfl
 simp only [go_sem,seval,hN,hF,hK,hL,c,hs,o3,o4,he,ha,z0,z1,z2,z3]
theorem fless_go (hN : Oq N) (hF : Oq F) (hK : IsS 5 kr K) (hL : IsS 3 lr L) (c : decide ((i : Int) < ti) = true) (hi : i < 100)
  (hs : ev cfg (.call 22 [Nq N F,Wq 9 0 0 K L] [Nb N F,Wx 9 0 0 K L]) = Rq (.tup [Wq 9 0 0 K3 L3,I k,I 0])) (o3 : IsS 5 kr3 K3) (o4 : IsS 3 lr3 L3)
  (k0 : (k == 0) = false) (k1 : decide (k < 0) = false) (k2 : decide (k > 3) = false) (l1 : decide ((lr3.length : Int) >= (lr.length : Int)) = false) (l2 : decide ((kr3.length : Int) >= (kr.length : Int)) = false)
  (href : ∀ b0 b1 b2 : Box,ev cfg (.call 13 [Wq 9 0 0 K3 L3] [b0,b1,b2]) = Rq (Wq 9 0 0 R M)) (oR : Oq R) (oM : Oq M)
  (hw : ∀ b0 b1 b2 : Box,ev cfg (.call 24 [Nq N F,Wq 9 0 0 R M] [b0,b1,b2]) = Rq (I 0)) :
  Jq (.loop 6 9 ⟨(sh6_9 (I ti) (.ptr 0 0) (.ptr 1 0) (I i)),[Nb N F,Wx 9 0 0 K L],0,none,false⟩) =
   ev cfg (.loop 6 9 ⟨(sh6_9 (I ti) (.ptr 0 0) (.ptr 1 0) (I ((i + 1 : Nat) : Int))),[Nb N F,Wx 9 0 0 K3 L3],0,none,false⟩) := by
 have z0 : ((0 : Int) != 0) = false := rfl
 have w0 : IntKind.wrap .i64 ((i : Int) + 1) = ((i + 1 : Nat) : Int) := by rw [wrap_lo (by omega) (by omega)]; omega
 obtain ⟨_,p1,p2,p3⟩ := hK
 obtain ⟨_,q1,q2,q3⟩ := hL
 obtain ⟨_,r1,r2,r3⟩ := o3
 obtain ⟨_,s1,s2,s3⟩ := o4
 simp (maxSteps := 2000000) only [go_sem,seval,hN,hF,p1,p3,q1,q3,c,hs,r1,r3,s1,s3,k0,k1,k2,l1,l2,href,oR,oM,hw,z0,w0]
theorem fless_f (hN : Oq N) (hF : Oq F) (hlg : Cq 7 [Nq N F] (B false)) (h5 : Cq 18 [Nq N F] (.agg [I 0,I q]))
  (c1 : decide (ti < 0) = false) (c2 : decide (ti > 60) = false)
  (hb : ∀ b0 : Box,ev cfg (.call 11 [Nq N F] [b0]) = Rq (.tup [Wq 9 0 0 K L,I 0])) (hK : IsS 5 kr K) (hL : Oq L) (h2 : ((kr.length : Int) == 0) = false)
  (ha : ∀ b0 b1 : Box,ev cfg (.call 8 [] [b0,b1]) = Rq (B true)) (o3 : Oq K3) (o4 : Oq L3)
  (hlp : ev cfg (.loop 6 9 ⟨(sh6_9 (I ti) (.ptr 0 0) (.ptr 1 0) (I 0)),[Nb N F,Wx 9 0 0 K L],0,none,false⟩) =
   (if v = true then some (.loop .ret ⟨(se6_9 (B true)),[Nb N F,Wx 9 0 0 K3 L3],0,none,false⟩) else some (.loop (.exit 0) ⟨(se6_9 .dead),[Nb N F,Wx 9 0 0 K3 L3],0,none,false⟩))) :
  Jq (.call 6 [Nq N F,I ti] []) = Rq (B true) := by
 have z0 : ((0 : Int) != 0) = false := rfl
 obtain ⟨_,p1,p2,p3⟩ := hK
 cases v
 ·rw [if_neg (by decide)] at hlp
  simp only [go_sem,seval,hN,hF,hlg,h5,ha,c1,c2,hb,p1,p3,hL,z0,h2,hlp,o3,o4]
 ·rw [if_pos rfl] at hlp
  simp only [go_sem,seval,hN,hF,hlg,h5,ha,c1,c2,hb,p1,p3,hL,z0,h2,hlp,o3,o4]
end
end Go.Proofs.YtifckjhggamefaaGreatDoor
