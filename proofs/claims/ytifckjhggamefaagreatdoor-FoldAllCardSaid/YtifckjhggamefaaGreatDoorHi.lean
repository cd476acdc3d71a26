/- Rounds of Fold: its ends. No condition. -/
import Derived.Test.YtifckjhggamefaaGreatDoorQb
set_option linter.unusedSimpArgs false
set_option linter.unusedVariables false
set_option linter.unusedSectionVars false
namespace Go.Proofs.YtifckjhggamefaaGreatDoor
open Go Go.Vx
set_option maxHeartbeats 4000000
set_option maxRecDepth 10000
section
variable {bx : List Box} {rows lr : List (List D)} {N F K L K2 L2 : D} {LP : PV} {c c2 : Box} {k n a : Int}
theorem fFold_empty (hN : Oq N) (hF : Oq F) (hK : Oq K) (hL : Oq L) (hb : ∀ r0 r1 : Box,ev cfg (.call 11 [Nq N F] (bx ++ [r0,r1])) = Rq (.tup [Wq 9 0 0 K L,I 0]))
  (ho : ∀ r0 r1 r2 : Box,ev cfg (.call 27 [Nq N F,Wq 9 0 0 K L] (bx ++ [r0,r1,r2])) = some (.ret (P5 bx) (some ⟨bx ++ [r0,r1,r2,Nb N F,Wx 9 0 0 K L,c],bx.length + 3,false⟩)))
  (hloop : ev cfg (.loop 9 5 (qs bx (sh9_5 (P1 bx) (P5 bx)) [Nb N F,E6,Wx 9 0 0 K L,Nb N F,Wx 9 0 0 K L,c])) = some (.loop (.exit 0) (qs bx (se9_5 (P1 bx) (P5 bx)) [Nb N F,E6,Wx 9 0 0 K L,Nb N F,Wx 9 0 0 K L,[.dat N,.dat F,.dat .nil,LP]]))) :
  Jq (.call 9 [Nq N F] bx) = Rq (.tup [Wq 1 0 0 .nil .nil,I 0]) := by
 have e0 : ((0 : Int) != 0) = false := rfl
 have e1 : (((0 : Nat) : Int) == 0) = true := rfl
 simp only [go_sem,seval,hN,hF,hK,hL,hb,e0,ho,hloop,e1]
theorem fFold_one (hN : Oq N) (hF : Oq F) (hK : Oq K) (hL : Oq L) (hb : ∀ r0 r1 : Box,ev cfg (.call 11 [Nq N F] (bx ++ [r0,r1])) = Rq (.tup [Wq 9 0 0 K L,I 0]))
  (ho : ∀ r0 r1 r2 : Box,ev cfg (.call 27 [Nq N F,Wq 9 0 0 K L] (bx ++ [r0,r1,r2])) = some (.ret (P5 bx) (some ⟨bx ++ [r0,r1,r2,Nb N F,Wx 9 0 0 K L,c],bx.length + 3,false⟩)))
  (hloop : ev cfg (.loop 9 5 (qs bx (sh9_5 (P1 bx) (P5 bx)) [Nb N F,E6,Wx 9 0 0 K L,Nb N F,Wx 9 0 0 K L,c])) = some (.loop (.exit 0) (qs bx (se9_5 (P1 bx) (P5 bx)) [Nb N F,E6,Wx 9 0 0 K L,Nb N F,Wx 9 0 0 K L,[.dat N,.dat F,.own true 5 rows,.own true 3 lr]]))) (n0 : ((rows.length : Int) == 0) = false) (n1 : ((rows.length : Int) == 1) = true) (hg : ev cfg (.call 29 [P5 bx,I 0] (bx ++ [Nb N F,E6,Wx 9 0 0 K L,Nb N F,Wx 9 0 0 K L,[.dat N,.dat F,.own true 5 rows,.own true 3 lr]])) = Rq (B false)) (n2 : ((lr.length : Int) == 2) = true) (hr : rows[0]? = some [dI k,dI n,dI a,K2,L2]) (hK2 : Oq K2) (hL2 : Oq L2) :
  Jq (.call 9 [Nq N F] bx) = Rq (.tup [Wq k n a K2 L2,I 0]) := by
 have e0 : ((0 : Int) != 0) = false := rfl
 have hz : 0 < rows.length := (gsi.1 hr).1
 simp only [go_sem,seval,hN,hF,hK,hL,hb,e0,ho,hloop,n0,n1,n2,hg,hr,hz,hK2,hL2]
theorem fFold_many (hN : Oq N) (hF : Oq F) (hK : Oq K) (hL : Oq L) (hb : ∀ r0 r1 : Box,ev cfg (.call 11 [Nq N F] (bx ++ [r0,r1])) = Rq (.tup [Wq 9 0 0 K L,I 0]))
  (ho : ∀ r0 r1 r2 : Box,ev cfg (.call 27 [Nq N F,Wq 9 0 0 K L] (bx ++ [r0,r1,r2])) = some (.ret (P5 bx) (some ⟨bx ++ [r0,r1,r2,Nb N F,Wx 9 0 0 K L,c],bx.length + 3,false⟩)))
  (hloop : ev cfg (.loop 9 5 (qs bx (sh9_5 (P1 bx) (P5 bx)) [Nb N F,E6,Wx 9 0 0 K L,Nb N F,Wx 9 0 0 K L,c])) = some (.loop (.exit 0) (qs bx (se9_5 (P1 bx) (P5 bx)) [Nb N F,E6,Wx 9 0 0 K L,Nb N F,Wx 9 0 0 K L,[.dat N,.dat F,.own true 5 rows,.own true 3 lr]]))) (n0 : ((rows.length : Int) == 0) = false) (n1 : ((rows.length : Int) == 1) = false) (hw : ev cfg (.call 30 [P5 bx] (bx ++ [Nb N F,E6,Wx 9 0 0 K L,Nb N F,Wx 9 0 0 K L,[.dat N,.dat F,.own true 5 rows,.own true 3 lr]])) = some (.ret (Wq 9 0 0 K2 L2) (some ⟨bx ++ [Nb N F,E6,Wx 9 0 0 K L,Nb N F,Wx 9 0 0 K L,c2],bx.length + 5,false⟩))) (hK2 : Oq K2) (hL2 : Oq L2) :
  Jq (.call 9 [Nq N F] bx) = Rq (.tup [Wq 9 0 0 K2 L2,I 0]) := by
 have e0 : ((0 : Int) != 0) = false := rfl
 simp only [go_sem,seval,hN,hF,hK,hL,hb,e0,ho,hloop,n0,n1,hw,hK2,hL2]
theorem fFold_gate (hN : Oq N) (hF : Oq F) (hK : Oq K) (hL : Oq L) (hb : ∀ r0 r1 : Box,ev cfg (.call 11 [Nq N F] (bx ++ [r0,r1])) = Rq (.tup [Wq 9 0 0 K L,I 0]))
  (ho : ∀ r0 r1 r2 : Box,ev cfg (.call 27 [Nq N F,Wq 9 0 0 K L] (bx ++ [r0,r1,r2])) = some (.ret (P5 bx) (some ⟨bx ++ [r0,r1,r2,Nb N F,Wx 9 0 0 K L,c],bx.length + 3,false⟩)))
  (hloop : ev cfg (.loop 9 5 (qs bx (sh9_5 (P1 bx) (P5 bx)) [Nb N F,E6,Wx 9 0 0 K L,Nb N F,Wx 9 0 0 K L,c])) = some (.loop (.exit 0) (qs bx (se9_5 (P1 bx) (P5 bx)) [Nb N F,E6,Wx 9 0 0 K L,Nb N F,Wx 9 0 0 K L,[.dat N,.dat F,.own true 5 rows,.own true 3 lr]]))) (n0 : ((rows.length : Int) == 0) = false) (n1 : ((rows.length : Int) == 1) = true) (hg : ev cfg (.call 29 [P5 bx,I 0] (bx ++ [Nb N F,E6,Wx 9 0 0 K L,Nb N F,Wx 9 0 0 K L,[.dat N,.dat F,.own true 5 rows,.own true 3 lr]])) = Rq (B true)) (hw : ev cfg (.call 30 [P5 bx] (bx ++ [Nb N F,E6,Wx 9 0 0 K L,Nb N F,Wx 9 0 0 K L,[.dat N,.dat F,.own true 5 rows,.own true 3 lr]])) = some (.ret (Wq 9 0 0 K2 L2) (some ⟨bx ++ [Nb N F,E6,Wx 9 0 0 K L,Nb N F,Wx 9 0 0 K L,c2],bx.length + 5,false⟩))) (hK2 : Oq K2) (hL2 : Oq L2) :
  Jq (.call 9 [Nq N F] bx) = Rq (.tup [Wq 9 0 0 K2 L2,I 0]) := by
 have e0 : ((0 : Int) != 0) = false := rfl
 simp only [go_sem,seval,hN,hF,hK,hL,hb,e0,ho,hloop,n0,n1,hg,hw,hK2,hL2]
theorem fFold_links (hN : Oq N) (hF : Oq F) (hK : Oq K) (hL : Oq L) (hb : ∀ r0 r1 : Box,ev cfg (.call 11 [Nq N F] (bx ++ [r0,r1])) = Rq (.tup [Wq 9 0 0 K L,I 0]))
  (ho : ∀ r0 r1 r2 : Box,ev cfg (.call 27 [Nq N F,Wq 9 0 0 K L] (bx ++ [r0,r1,r2])) = some (.ret (P5 bx) (some ⟨bx ++ [r0,r1,r2,Nb N F,Wx 9 0 0 K L,c],bx.length + 3,false⟩)))
  (hloop : ev cfg (.loop 9 5 (qs bx (sh9_5 (P1 bx) (P5 bx)) [Nb N F,E6,Wx 9 0 0 K L,Nb N F,Wx 9 0 0 K L,c])) = some (.loop (.exit 0) (qs bx (se9_5 (P1 bx) (P5 bx)) [Nb N F,E6,Wx 9 0 0 K L,Nb N F,Wx 9 0 0 K L,[.dat N,.dat F,.own true 5 rows,.own true 3 lr]]))) (n0 : ((rows.length : Int) == 0) = false) (n1 : ((rows.length : Int) == 1) = true) (hg : ev cfg (.call 29 [P5 bx,I 0] (bx ++ [Nb N F,E6,Wx 9 0 0 K L,Nb N F,Wx 9 0 0 K L,[.dat N,.dat F,.own true 5 rows,.own true 3 lr]])) = Rq (B false)) (n2 : ((lr.length : Int) == 2) = false) (hw : ev cfg (.call 30 [P5 bx] (bx ++ [Nb N F,E6,Wx 9 0 0 K L,Nb N F,Wx 9 0 0 K L,[.dat N,.dat F,.own true 5 rows,.own true 3 lr]])) = some (.ret (Wq 9 0 0 K2 L2) (some ⟨bx ++ [Nb N F,E6,Wx 9 0 0 K L,Nb N F,Wx 9 0 0 K L,c2],bx.length + 5,false⟩))) (hK2 : Oq K2) (hL2 : Oq L2) :
  Jq (.call 9 [Nq N F] bx) = Rq (.tup [Wq 9 0 0 K2 L2,I 0]) := by
 have e0 : ((0 : Int) != 0) = false := rfl
 simp only [go_sem,seval,hN,hF,hK,hL,hb,e0,ho,hloop,n0,n1,hg,n2,hw,hK2,hL2]
end
section
variable {bx : List Box} {pr nr : List (List D)} {N F KT : D} {KP : PV} {i : Nat} {k a op m y : Int}
theorem fbegin_end1 (hN : IsS 5 nr N) (hF : Oq F) (hget : nr[i]? = some [dI k,dI a,dI op,dI m,KT]) (hKT : Oq KT) (hlt : i < nr.length) (hmax : nr.length < 9223372036854775808) (hp : pr[i]? = some [dI y]) (hk : (k == 1) = true) {KP : List (List D)} :
  Jq (.loop 11 7 (qs bx (sh11_7 (P0 bx) (P1 bx) (P2 bx) (.own true 1 pr) (.dat N) (I nr.length) (I i)) [Nb N F,E6,[I 9,I 0,I 0,mkS 5 KP,.dat .nil]])) = ev cfg (.loop 11 7 (qs bx (sh11_7 (P0 bx) (P1 bx) (P2 bx) (.own true 1 (pr.set i [dI (-1)])) (.dat N) (I nr.length) (I ((i + 1 : Nat) : Int))) [Nb N F,E6,[I 9,I 0,I 0,mkS 5 KP,.dat .nil]])) := by
 have hlp : i < pr.length := (gsi.1 hp).1
 obtain ⟨w1,g1,g2,g3⟩ := hN
 obtain rfl := isS_w g2 hget
 cases KP <;> simp only [go_sem,seval,mkS,g1,g3,hF,hKT,nat_lt hlt,nat_neg,tnc,hget,hlt,hp,hlp,nat_succ hlt hmax,hk]
theorem fbegin_end2 (hN : IsS 5 nr N) (hF : Oq F) (hget : nr[i]? = some [dI k,dI a,dI op,dI m,KT]) (hKT : Oq KT) (hlt : i < nr.length) (hmax : nr.length < 9223372036854775808) (hp : pr[i]? = some [dI y]) (hk1 : (k == 1) = false) (hk : (k == 2) = true) {KP : List (List D)} :
  Jq (.loop 11 7 (qs bx (sh11_7 (P0 bx) (P1 bx) (P2 bx) (.own true 1 pr) (.dat N) (I nr.length) (I i)) [Nb N F,E6,[I 9,I 0,I 0,mkS 5 KP,.dat .nil]])) = ev cfg (.loop 11 7 (qs bx (sh11_7 (P0 bx) (P1 bx) (P2 bx) (.own true 1 (pr.set i [dI (-1)])) (.dat N) (I nr.length) (I ((i + 1 : Nat) : Int))) [Nb N F,E6,[I 9,I 0,I 0,mkS 5 KP,.dat .nil]])) := by
 have hlp : i < pr.length := (gsi.1 hp).1
 obtain ⟨w1,g1,g2,g3⟩ := hN
 obtain rfl := isS_w g2 hget
 cases KP <;> simp only [go_sem,seval,mkS,g1,g3,hF,hKT,nat_lt hlt,nat_neg,tnc,hget,hlt,hp,hlp,nat_succ hlt hmax,hk1,hk]
end
section
variable {bx : List Box} {pr nr : List (List D)} {N F KT : D} {i : Nat} {k a op m y : Int}
theorem fbegin_leaf0 (hN : IsS 5 nr N) (hF : Oq F) (hget : nr[i]? = some [dI k,dI a,dI op,dI m,KT]) (hKT : Oq KT) (hlt : i < nr.length) (hmax : nr.length < 9223372036854775808) (hp : pr[i]? = some [dI y]) (k1 : (k == 1) = false) (k2 : (k == 2) = false) (k5 : (k == 5) = false) (k6 : (k == 6) = false) (k7 : (k == 7) = false) :
  Jq (.loop 11 7 (qs bx (sh11_7 (P0 bx) (P1 bx) (P2 bx) (.own true 1 pr) (.dat N) (I nr.length) (I i)) [Nb N F,E6,Wx 9 0 0 .nil .nil])) = ev cfg (.loop 11 7 (qs bx (sh11_7 (P0 bx) (P1 bx) (P2 bx) (.own true 1 (pr.set i [dI (0 : Nat)])) (.dat N) (I nr.length) (I ((i + 1 : Nat) : Int))) [Nb N F,E6,[I 9,I 0,I 0,.own true 5 [[dI 2,dI i,dI 0,.nil,.nil]],.dat .nil]])) := by
 have hlp : i < pr.length := (gsi.1 hp).1
 obtain ⟨w1,g1,g2,g3⟩ := hN
 obtain rfl := isS_w g2 hget
 simp only [go_sem,seval,g1,g3,hF,hKT,nat_lt hlt,nat_neg,tnc,hget,hlt,hp,hlp,nat_succ hlt hmax,k1,k2,k5,k6,k7,lls,gss hlp,List.set_set]
theorem fbegin_g50 (hN : IsS 5 nr N) (hF : Oq F) (hget : nr[i]? = some [dI k,dI a,dI op,dI m,KT]) (hKT : Oq KT) (hlt : i < nr.length) (hmax : nr.length < 9223372036854775808) (hp : pr[i]? = some [dI y]) (k1 : (k == 1) = false) (k2 : (k == 2) = false) (k5 : (k == 5) = true) :
  Jq (.loop 11 7 (qs bx (sh11_7 (P0 bx) (P1 bx) (P2 bx) (.own true 1 pr) (.dat N) (I nr.length) (I i)) [Nb N F,E6,Wx 9 0 0 .nil .nil])) = ev cfg (.loop 11 7 (qs bx (sh11_7 (P0 bx) (P1 bx) (P2 bx) (.own true 1 (pr.set i [dI (0 : Nat)])) (.dat N) (I nr.length) (I ((i + 1 : Nat) : Int))) [Nb N F,E6,[I 9,I 0,I 0,.own true 5 [[dI 8,dI i,dI 0,.nil,.nil]],.dat .nil]])) := by
 have hlp : i < pr.length := (gsi.1 hp).1
 obtain ⟨w1,g1,g2,g3⟩ := hN
 obtain rfl := isS_w g2 hget
 simp only [go_sem,seval,g1,g3,hF,hKT,nat_lt hlt,nat_neg,tnc,hget,hlt,hp,hlp,nat_succ hlt hmax,k1,k2,k5,lls,gss hlp,List.set_set]
theorem fbegin_g60 (hN : IsS 5 nr N) (hF : Oq F) (hget : nr[i]? = some [dI k,dI a,dI op,dI m,KT]) (hKT : Oq KT) (hlt : i < nr.length) (hmax : nr.length < 9223372036854775808) (hp : pr[i]? = some [dI y]) (k1 : (k == 1) = false) (k2 : (k == 2) = false) (k5 : (k == 5) = false) (k6 : (k == 6) = true) :
  Jq (.loop 11 7 (qs bx (sh11_7 (P0 bx) (P1 bx) (P2 bx) (.own true 1 pr) (.dat N) (I nr.length) (I i)) [Nb N F,E6,Wx 9 0 0 .nil .nil])) = ev cfg (.loop 11 7 (qs bx (sh11_7 (P0 bx) (P1 bx) (P2 bx) (.own true 1 (pr.set i [dI (0 : Nat)])) (.dat N) (I nr.length) (I ((i + 1 : Nat) : Int))) [Nb N F,E6,[I 9,I 0,I 0,.own true 5 [[dI 8,dI i,dI 0,.nil,.nil]],.dat .nil]])) := by
 have hlp : i < pr.length := (gsi.1 hp).1
 obtain ⟨w1,g1,g2,g3⟩ := hN
 obtain rfl := isS_w g2 hget
 simp only [go_sem,seval,g1,g3,hF,hKT,nat_lt hlt,nat_neg,tnc,hget,hlt,hp,hlp,nat_succ hlt hmax,k1,k2,k5,k6,lls,gss hlp,List.set_set]
theorem fbegin_g70 (hN : IsS 5 nr N) (hF : Oq F) (hget : nr[i]? = some [dI k,dI a,dI op,dI m,KT]) (hKT : Oq KT) (hlt : i < nr.length) (hmax : nr.length < 9223372036854775808) (hp : pr[i]? = some [dI y]) (k1 : (k == 1) = false) (k2 : (k == 2) = false) (k5 : (k == 5) = false) (k6 : (k == 6) = false) (k7 : (k == 7) = true) :
  Jq (.loop 11 7 (qs bx (sh11_7 (P0 bx) (P1 bx) (P2 bx) (.own true 1 pr) (.dat N) (I nr.length) (I i)) [Nb N F,E6,Wx 9 0 0 .nil .nil])) = ev cfg (.loop 11 7 (qs bx (sh11_7 (P0 bx) (P1 bx) (P2 bx) (.own true 1 (pr.set i [dI (0 : Nat)])) (.dat N) (I nr.length) (I ((i + 1 : Nat) : Int))) [Nb N F,E6,[I 9,I 0,I 0,.own true 5 [[dI 8,dI i,dI 0,.nil,.nil]],.dat .nil]])) := by
 have hlp : i < pr.length := (gsi.1 hp).1
 obtain ⟨w1,g1,g2,g3⟩ := hN
 obtain rfl := isS_w g2 hget
 simp only [go_sem,seval,g1,g3,hF,hKT,nat_lt hlt,nat_neg,tnc,hget,hlt,hp,hlp,nat_succ hlt hmax,k1,k2,k5,k6,k7,lls,gss hlp,List.set_set]
end
section
variable {bx : List Box} {pr ks nr : List (List D)} {N F KT : D} {i : Nat} {k a op m y : Int}
theorem fbegin_leaf1 (hN : IsS 5 nr N) (hF : Oq F) (hget : nr[i]? = some [dI k,dI a,dI op,dI m,KT]) (hKT : Oq KT) (hlt : i < nr.length) (hmax : nr.length < 9223372036854775808) (hp : pr[i]? = some [dI y]) (k1 : (k == 1) = false) (k2 : (k == 2) = false) (k5 : (k == 5) = false) (k6 : (k == 6) = false) (k7 : (k == 7) = false) (hks : (ks.length + 1) * 72 <= 140737488355328) :
  Jq (.loop 11 7 (qs bx (sh11_7 (P0 bx) (P1 bx) (P2 bx) (.own true 1 pr) (.dat N) (I nr.length) (I i)) [Nb N F,E6,[I 9,I 0,I 0,.own true 5 ks,.dat .nil]])) = ev cfg (.loop 11 7 (qs bx (sh11_7 (P0 bx) (P1 bx) (P2 bx) (.own true 1 (pr.set i [dI (ks.length : Nat)])) (.dat N) (I nr.length) (I ((i + 1 : Nat) : Int))) [Nb N F,E6,[I 9,I 0,I 0,.own true 5 (ks ++ [[dI 2,dI i,dI 0,.nil,.nil]]),.dat .nil]])) := by
 have hlp : i < pr.length := (gsi.1 hp).1
 obtain ⟨w1,g1,g2,g3⟩ := hN
 obtain rfl := isS_w g2 hget
 simp only [go_sem,seval,g1,g3,hF,hKT,nat_lt hlt,nat_neg,tnc,hget,hlt,hp,hlp,nat_succ hlt hmax,k1,k2,k5,k6,k7,hks,lls,gss hlp,List.set_set]
theorem fbegin_g51 (hN : IsS 5 nr N) (hF : Oq F) (hget : nr[i]? = some [dI k,dI a,dI op,dI m,KT]) (hKT : Oq KT) (hlt : i < nr.length) (hmax : nr.length < 9223372036854775808) (hp : pr[i]? = some [dI y]) (k1 : (k == 1) = false) (k2 : (k == 2) = false) (k5 : (k == 5) = true) (hks : (ks.length + 1) * 72 <= 140737488355328) :
  Jq (.loop 11 7 (qs bx (sh11_7 (P0 bx) (P1 bx) (P2 bx) (.own true 1 pr) (.dat N) (I nr.length) (I i)) [Nb N F,E6,[I 9,I 0,I 0,.own true 5 ks,.dat .nil]])) = ev cfg (.loop 11 7 (qs bx (sh11_7 (P0 bx) (P1 bx) (P2 bx) (.own true 1 (pr.set i [dI (ks.length : Nat)])) (.dat N) (I nr.length) (I ((i + 1 : Nat) : Int))) [Nb N F,E6,[I 9,I 0,I 0,.own true 5 (ks ++ [[dI 8,dI i,dI 0,.nil,.nil]]),.dat .nil]])) := by
 have hlp : i < pr.length := (gsi.1 hp).1
 obtain ⟨w1,g1,g2,g3⟩ := hN
 obtain rfl := isS_w g2 hget
 simp only [go_sem,seval,g1,g3,hF,hKT,nat_lt hlt,nat_neg,tnc,hget,hlt,hp,hlp,nat_succ hlt hmax,k1,k2,k5,hks,lls,gss hlp,List.set_set]
theorem fbegin_g61 (hN : IsS 5 nr N) (hF : Oq F) (hget : nr[i]? = some [dI k,dI a,dI op,dI m,KT]) (hKT : Oq KT) (hlt : i < nr.length) (hmax : nr.length < 9223372036854775808) (hp : pr[i]? = some [dI y]) (k1 : (k == 1) = false) (k2 : (k == 2) = false) (k5 : (k == 5) = false) (k6 : (k == 6) = true) (hks : (ks.length + 1) * 72 <= 140737488355328) :
  Jq (.loop 11 7 (qs bx (sh11_7 (P0 bx) (P1 bx) (P2 bx) (.own true 1 pr) (.dat N) (I nr.length) (I i)) [Nb N F,E6,[I 9,I 0,I 0,.own true 5 ks,.dat .nil]])) = ev cfg (.loop 11 7 (qs bx (sh11_7 (P0 bx) (P1 bx) (P2 bx) (.own true 1 (pr.set i [dI (ks.length : Nat)])) (.dat N) (I nr.length) (I ((i + 1 : Nat) : Int))) [Nb N F,E6,[I 9,I 0,I 0,.own true 5 (ks ++ [[dI 8,dI i,dI 0,.nil,.nil]]),.dat .nil]])) := by
 have hlp : i < pr.length := (gsi.1 hp).1
 obtain ⟨w1,g1,g2,g3⟩ := hN
 obtain rfl := isS_w g2 hget
 simp only [go_sem,seval,g1,g3,hF,hKT,nat_lt hlt,nat_neg,tnc,hget,hlt,hp,hlp,nat_succ hlt hmax,k1,k2,k5,k6,hks,lls,gss hlp,List.set_set]
theorem fbegin_g71 (hN : IsS 5 nr N) (hF : Oq F) (hget : nr[i]? = some [dI k,dI a,dI op,dI m,KT]) (hKT : Oq KT) (hlt : i < nr.length) (hmax : nr.length < 9223372036854775808) (hp : pr[i]? = some [dI y]) (k1 : (k == 1) = false) (k2 : (k == 2) = false) (k5 : (k == 5) = false) (k6 : (k == 6) = false) (k7 : (k == 7) = true) (hks : (ks.length + 1) * 72 <= 140737488355328) :
  Jq (.loop 11 7 (qs bx (sh11_7 (P0 bx) (P1 bx) (P2 bx) (.own true 1 pr) (.dat N) (I nr.length) (I i)) [Nb N F,E6,[I 9,I 0,I 0,.own true 5 ks,.dat .nil]])) = ev cfg (.loop 11 7 (qs bx (sh11_7 (P0 bx) (P1 bx) (P2 bx) (.own true 1 (pr.set i [dI (ks.length : Nat)])) (.dat N) (I nr.length) (I ((i + 1 : Nat) : Int))) [Nb N F,E6,[I 9,I 0,I 0,.own true 5 (ks ++ [[dI 8,dI i,dI 0,.nil,.nil]]),.dat .nil]])) := by
 have hlp : i < pr.length := (gsi.1 hp).1
 obtain ⟨w1,g1,g2,g3⟩ := hN
 obtain rfl := isS_w g2 hget
 simp only [go_sem,seval,g1,g3,hF,hKT,nat_lt hlt,nat_neg,tnc,hget,hlt,hp,hlp,nat_succ hlt hmax,k1,k2,k5,k6,k7,hks,lls,gss hlp,List.set_set]
end
section
variable {bx : List Box} {pr ks ls fr : List (List D)} {N F KT : D} {i p q : Nat} {op m fv tv : Int} {els : Bool}
theorem fbegin_l0 (hN : Oq N) (hF : IsS 6 fr F) (hget : fr[i]? = some [dI (p : Nat),dI (q : Nat),.lit (.bool els),dI op,dI m,KT]) (hKT : Oq KT) (hlt : i < fr.length) (hmax : fr.length < 9223372036854775808) (hp : pr[p]? = some [dI fv]) (hq : pr[q]? = some [dI tv]) :
  Jq (.loop 11 22 (qs bx (sh11_22 (P1 bx) (P2 bx) (.own true 1 pr) (.dat F) (I fr.length) (I i)) [Nb N F,E6,[I 9,I 0,I 0,mkS 5 ks,.dat .nil]])) = ev cfg (.loop 11 22 (qs bx (sh11_22 (P1 bx) (P2 bx) (.own true 1 pr) (.dat F) (I fr.length) (I ((i + 1 : Nat) : Int))) [Nb N F,E6,[I 9,I 0,I 0,mkS 5 ks,.own true 3 [[dI fv,dI tv,dI i]]]])) := by
 have hlp : p < pr.length := (gsi.1 hp).1
 have hlq : q < pr.length := (gsi.1 hq).1
 obtain ⟨w1,g1,g2,g3⟩ := hF
 obtain rfl := isS_w g2 hget
 cases ks <;> simp only [go_sem,seval,mkS,g1,g3,hN,hKT,nat_lt hlt,nat_neg,tnc,hget,hlt,hp,hlp,hq,hlq,nat_succ hlt hmax]
theorem fbegin_l1 (hN : Oq N) (hF : IsS 6 fr F) (hget : fr[i]? = some [dI (p : Nat),dI (q : Nat),.lit (.bool els),dI op,dI m,KT]) (hKT : Oq KT) (hlt : i < fr.length) (hmax : fr.length < 9223372036854775808) (hp : pr[p]? = some [dI fv]) (hq : pr[q]? = some [dI tv]) (hks : (ls.length + 1) * 24 <= 140737488355328) :
  Jq (.loop 11 22 (qs bx (sh11_22 (P1 bx) (P2 bx) (.own true 1 pr) (.dat F) (I fr.length) (I i)) [Nb N F,E6,[I 9,I 0,I 0,mkS 5 ks,.own true 3 ls]])) = ev cfg (.loop 11 22 (qs bx (sh11_22 (P1 bx) (P2 bx) (.own true 1 pr) (.dat F) (I fr.length) (I ((i + 1 : Nat) : Int))) [Nb N F,E6,[I 9,I 0,I 0,mkS 5 ks,.own true 3 (ls ++ [[dI fv,dI tv,dI i]])]])) := by
 have hlp : p < pr.length := (gsi.1 hp).1
 have hlq : q < pr.length := (gsi.1 hq).1
 obtain ⟨w1,g1,g2,g3⟩ := hF
 obtain rfl := isS_w g2 hget
 cases ks <;> simp only [go_sem,seval,mkS,g1,g3,hN,hKT,nat_lt hlt,nat_neg,tnc,hget,hlt,hp,hlp,hq,hlq,nat_succ hlt hmax,hks]
end
section
variable {bx : List Box} {pr ks ls nr fr : List (List D)} {N F : D} {i : Nat} {k a m : Int}
theorem fbegin_kend (hN : Oq N) (hF : Oq F) {m : Nat} (hge : m <= i) :
  Jq (.loop 11 7 (qs bx (sh11_7 (P0 bx) (P1 bx) (P2 bx) (.own true 1 pr) (.dat N) (I m) (I i)) [Nb N F,E6,[I 9,I 0,I 0,mkS 5 ks,.dat .nil]])) = some (.loop (.exit 0) (qs bx (se11_7 (P0 bx) (P1 bx) (P2 bx) (.own true 1 pr)) [Nb N F,E6,[I 9,I 0,I 0,mkS 5 ks,.dat .nil]])) := by
 cases ks <;> simp only [go_sem,seval,mkS,hN,hF,nat_ge hge]
theorem fbegin_lend (hN : Oq N) (hF : Oq F) {m : Nat} (hge : m <= i) :
  Jq (.loop 11 22 (qs bx (sh11_22 (P1 bx) (P2 bx) (.own true 1 pr) (.dat F) (I m) (I i)) [Nb N F,E6,[I 9,I 0,I 0,mkS 5 ks,mkS 3 ls]])) = some (.loop (.exit 3) (qs bx (se11_22 (P1 bx) (P2 bx)) [Nb N F,E6,[I 9,I 0,I 0,mkS 5 ks,mkS 3 ls]])) := by
 cases ks <;> cases ls <;> simp only [go_sem,seval,mkS,hN,hF,nat_ge hge]
theorem fbegin_err (hN : Oq N) (hF : Oq F) (hc : ∀ r0 r1 : Box,ev cfg (.call 33 [Nq N F] (bx ++ [r0,r1])) = Rq (.tup [I k,I a])) (hk : (k != 0) = true) :
  Jq (.call 11 [Nq N F] bx) = Rq (.tup [Wq 0 0 0 .nil .nil,I 4]) := by
 simp only [go_sem,seval,hN,hF,hc,hk]
theorem fbegin_f (hN : IsS 5 nr N) (hF : IsS 6 fr F) (hc : ∀ r0 r1 : Box,ev cfg (.call 33 [Nq N F] (bx ++ [r0,r1])) = Rq (.tup [I k,I a])) (hk : (k != 0) = false) (hbig : nr.length * 8 <= 140737488355328)
  (h1 : ev cfg (.loop 11 7 (qs bx (sh11_7 (P0 bx) (P1 bx) (P2 bx) (.own true 1 (List.replicate nr.length [dI 0])) (.dat N) (I nr.length) (I 0)) [Nb N F,E6,Wx 9 0 0 .nil .nil])) = some (.loop (.exit 0) (qs bx (se11_7 (P0 bx) (P1 bx) (P2 bx) (.own true 1 pr)) [Nb N F,E6,[I 9,I 0,I 0,mkS 5 ks,.dat .nil]])))
  (h2 : ev cfg (.loop 11 22 (qs bx (sh11_22 (P1 bx) (P2 bx) (.own true 1 pr) (.dat F) (I fr.length) (I 0)) [Nb N F,E6,[I 9,I 0,I 0,mkS 5 ks,.dat .nil]])) = some (.loop (.exit 3) (qs bx (se11_22 (P1 bx) (P2 bx)) [Nb N F,E6,[I 9,I 0,I 0,mkS 5 ks,mkS 3 ls]]))) :
  Jq (.call 11 [Nq N F] bx) = Rq (.tup [Wq 9 0 0 (mkD 5 ks) (mkD 3 ls),I 0]) := by
 have hz : (0 : Int) <= (nr.length : Int) := by omega
 obtain ⟨w1,g1,g2,g3⟩ := hN
 obtain ⟨w2,q1,q2,q3⟩ := hF
 cases ks <;> cases ls <;> simp only [mkS] at h1 h2 <;> simp only [go_sem,seval,mkS,mkD,g1,g3,q1,q3,hc,hk,hbig,hz,nat_neg,tnc,h1,h2]
end
section
variable {bx : List Box} {N F : D} {Y : PV} {l : Nat}
theorem finrow_nil (hl : l < bx.length) (hb : bx[l]? = some [.dat N,.dat F,.dat .nil,Y])
  (hloop : ev cfg (.loop 62 2 (q0 bx (sh62_2 (.ptr l 0) (I 0) (I 0)))) = some (.loop (.exit 0) (q0 bx (se62_2 .dead)))) :
  Jq (.call 62 [.ptr l 0] bx) = Rq (B false) := by
 simp only [go_sem,seval,hl,hb,hloop]
theorem fclosed_nil (hl : l < bx.length) (hb : bx[l]? = some [.dat N,.dat F,.dat .nil,Y])
  (hloop : ev cfg (.loop 63 2 (q0 bx (sh63_2 (.ptr l 0) (I 0) (I 0)))) = some (.loop (.exit 0) (q0 bx (se63_2 .dead)))) :
  Jq (.call 63 [.ptr l 0] bx) = Rq (B false) := by
 simp only [go_sem,seval,hl,hb,hloop]
theorem fround_nil (hl : l < bx.length) (hb : bx[l]? = some [.dat N,.dat F,.dat .nil,Y])
  (hloop : ev cfg (.loop 64 2 (q0 bx (sh64_2 (.ptr l 0) (I 0) (I 0)))) = some (.loop (.exit 0) (q0 bx (se64_2 .dead)))) :
  Jq (.call 64 [.ptr l 0] bx) = Rq (B false) := by
 simp only [go_sem,seval,hl,hb,hloop]
end
end Go.Proofs.YtifckjhggamefaaGreatDoor
