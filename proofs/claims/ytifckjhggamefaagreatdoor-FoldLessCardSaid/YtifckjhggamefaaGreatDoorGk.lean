/- Rounds of the blocks' functions: the conversion, the texts' outsides. No condition. -/
import Derived.Test.YtifckjhggamefaaGreatDoorPb
set_option linter.unusedSimpArgs false
set_option linter.unusedVariables false
set_option linter.unusedSectionVars false
namespace Go.Proofs.YtifckjhggamefaaGreatDoor
open Go Go.Vx
set_option maxHeartbeats 4000000
set_option maxRecDepth 10000
section
variable {bx : List Box} {c : Box} {rows : List (List D)} {K L : D} {lr : List (List D)} {i : Nat} {k n a : Int} {K' L' : D}
theorem r12 {M N : D} {z : Box} {k0 n0 a0 : Int} {ks : List (List D)} (hK : IsS 5 rows K) (hc : c.all (cellLt (bx.length + 3)) = true) (hz : z.all (cellLt (bx.length + 3)) = true) (hget : rows[i]? = some [dI k,dI n,dI a,K',L']) (hlt : i < rows.length) (hmax : rows.length < 9223372036854775808) (hk : Oq K') (hL : Oq L') (hM : Oq M) (hN : Oq N)
  (hks : (ks.length + 1) * 72 <= 140737488355328)
  (hcall : Cq 13 [Wq k n a K' L'] (Wq k n a M N)) :
  Jq (.loop 13 3 (qs bx (sh13_3 (P0 bx) (P1 bx) (P2 bx) (.dat K) (I rows.length) (I i)) [c,z,[I k0,I n0,I a0,.own true 5 ks,.dat .nil]])) =
   ev cfg (.loop 13 3 (qs bx (sh13_3 (P0 bx) (P1 bx) (P2 bx) (.dat K) (I rows.length) (I ((i + 1 : Nat) : Int))) [c,z,[I k0,I n0,I a0,.own true 5 (ks ++ [[dI k,dI n,dI a,M,N]]),.dat .nil]])) := by
 obtain ⟨w,h1,h2,h3⟩ := hK
 obtain rfl := isS_w h2 hget
 simp only [go_sem,seval,h1,h3,hk,hL,hM,hN,nat_lt hlt,nat_neg,tnc,hget,hcall,hc,hz,hks,nat_succ hlt hmax,Nat.min_self]
theorem r12n {M N : D} {z : Box} {k0 n0 a0 : Int} (hK : IsS 5 rows K) (hc : c.all (cellLt (bx.length + 3)) = true) (hz : z.all (cellLt (bx.length + 3)) = true) (hget : rows[i]? = some [dI k,dI n,dI a,K',L']) (hlt : i < rows.length) (hmax : rows.length < 9223372036854775808) (hk : Oq K') (hL : Oq L') (hM : Oq M) (hN : Oq N)
  (hcall : Cq 13 [Wq k n a K' L'] (Wq k n a M N)) :
  Jq (.loop 13 3 (qs bx (sh13_3 (P0 bx) (P1 bx) (P2 bx) (.dat K) (I rows.length) (I i)) [c,z,Wx k0 n0 a0 .nil .nil])) =
   ev cfg (.loop 13 3 (qs bx (sh13_3 (P0 bx) (P1 bx) (P2 bx) (.dat K) (I rows.length) (I ((i + 1 : Nat) : Int))) [c,z,[I k0,I n0,I a0,.own true 5 [[dI k,dI n,dI a,M,N]],.dat .nil]])) := by
 obtain ⟨w,h1,h2,h3⟩ := hK
 obtain rfl := isS_w h2 hget
 simp only [go_sem,seval,h1,h3,hk,hL,hM,hN,nat_lt hlt,nat_neg,tnc,hget,hcall,hc,hz,nat_succ hlt hmax,Nat.min_self]
theorem e12 {z : Box} {k0 n0 a0 : Int} {Y : PV} {n i : Nat} (hc : c.all (cellLt (bx.length + 3)) = true) (hz : z.all (cellLt (bx.length + 3)) = true) (hy : cellLt (bx.length + 3) Y = true) (hge : n <= i) :
  Jq (.loop 13 3 (qs bx (sh13_3 (P0 bx) (P1 bx) (P2 bx) (.dat K) (I n) (I i)) [c,z,[I k0,I n0,I a0,Y,.dat .nil]])) =
   some (.loop (.exit 0) (qs bx (se13_3 (P0 bx) (P1 bx) (P2 bx)) [c,z,[I k0,I n0,I a0,Y,.dat .nil]])) := by
 simp only [go_sem,seval,nat_ge hge,hc,hz,hy]
theorem r12b {f t w : Int} {z : Box} {k0 n0 a0 : Int} {Y : PV} {ls : List (List D)} (hL : IsS 3 lr L) (hc : c.all (cellLt (bx.length + 3)) = true) (hz : z.all (cellLt (bx.length + 3)) = true) (hy : cellLt (bx.length + 3) Y = true) (hget : lr[i]? = some [dI f,dI t,dI w]) (hlt : i < lr.length) (hmax : lr.length < 9223372036854775808) 
  (hls : (ls.length + 1) * 24 <= 140737488355328) :
  Jq (.loop 13 8 (qs bx (sh13_8 (P1 bx) (P2 bx) (.dat L) (I lr.length) (I i)) [c,z,[I k0,I n0,I a0,Y,.own true 3 ls]])) =
   ev cfg (.loop 13 8 (qs bx (sh13_8 (P1 bx) (P2 bx) (.dat L) (I lr.length) (I ((i + 1 : Nat) : Int))) [c,z,[I k0,I n0,I a0,Y,.own true 3 (ls ++ [[dI f,dI t,dI w]])]])) := by
 obtain ⟨ww,h1,h2,h3⟩ := hL
 obtain rfl := isS_w h2 hget
 simp only [go_sem,seval,h1,h3,nat_lt hlt,nat_neg,tnc,hget,hc,hz,hy,hls,nat_succ hlt hmax,Nat.min_self]
theorem r12bn {f t w : Int} {z : Box} {k0 n0 a0 : Int} {Y : PV} (hL : IsS 3 lr L) (hc : c.all (cellLt (bx.length + 3)) = true) (hz : z.all (cellLt (bx.length + 3)) = true) (hy : cellLt (bx.length + 3) Y = true) (hget : lr[i]? = some [dI f,dI t,dI w]) (hlt : i < lr.length) (hmax : lr.length < 9223372036854775808) :
  Jq (.loop 13 8 (qs bx (sh13_8 (P1 bx) (P2 bx) (.dat L) (I lr.length) (I i)) [c,z,[I k0,I n0,I a0,Y,.dat .nil]])) =
   ev cfg (.loop 13 8 (qs bx (sh13_8 (P1 bx) (P2 bx) (.dat L) (I lr.length) (I ((i + 1 : Nat) : Int))) [c,z,[I k0,I n0,I a0,Y,.own true 3 [[dI f,dI t,dI w]]]])) := by
 obtain ⟨ww,h1,h2,h3⟩ := hL
 obtain rfl := isS_w h2 hget
 simp only [go_sem,seval,h1,h3,nat_lt hlt,nat_neg,tnc,hget,hc,hz,hy,nat_succ hlt hmax,Nat.min_self]
theorem e12b {z : Box} {k0 n0 a0 : Int} {Y Z : PV} {n i : Nat} (hc : c.all (cellLt (bx.length + 3)) = true) (hz : z.all (cellLt (bx.length + 3)) = true) (hy : cellLt (bx.length + 3) Y = true) (hy2 : cellLt (bx.length + 3) Z = true) (hge : n <= i) :
  Jq (.loop 13 8 (qs bx (sh13_8 (P1 bx) (P2 bx) (.dat L) (I n) (I i)) [c,z,[I k0,I n0,I a0,Y,Z]])) =
   some (.loop (.exit 2) (qs bx (se13_8 (P1 bx) (P2 bx)) [c,z,[I k0,I n0,I a0,Y,Z]])) := by
 simp only [go_sem,seval,nat_ge hge,hc,hz,hy,hy2]
theorem f12 {ks ls : List (List D)} (hK : IsS 5 rows K) (hL : IsS 3 lr L)
  (hloop : ∀ c z : Box,c.all (cellLt (bx.length + 3)) = true -> z.all (cellLt (bx.length + 3)) = true -> ev cfg (.loop 13 3 (qs bx (sh13_3 (P0 bx) (P1 bx) (P2 bx) (.dat K) (I rows.length) (I 0)) [c,z,Wx k n a .nil .nil])) =
   some (.loop (.exit 0) (qs bx (se13_3 (P0 bx) (P1 bx) (P2 bx)) [c,z,[I k,I n,I a,mkS 5 ks,.dat .nil]])))
  (hloop2 : ∀ c z : Box,c.all (cellLt (bx.length + 3)) = true -> z.all (cellLt (bx.length + 3)) = true -> ev cfg (.loop 13 8 (qs bx (sh13_8 (P1 bx) (P2 bx) (.dat L) (I lr.length) (I 0)) [c,z,[I k,I n,I a,mkS 5 ks,.dat .nil]])) =
   some (.loop (.exit 2) (qs bx (se13_8 (P1 bx) (P2 bx)) [c,z,[I k,I n,I a,mkS 5 ks,mkS 3 ls]]))) :
  Jq (.call 13 [Wq k n a K L] bx) = Rq (Wq k n a (mkD 5 ks) (mkD 3 ls)) := by
 obtain ⟨w,h1,h2,h3⟩ := hK
 obtain ⟨wl,l1,l2,l3⟩ := hL
 have hl1 := hloop (Wx k n a K L) E6 (by simp [cellLt]) (by simp [cellLt])
 have hl2 := hloop2 (Wx k n a K L) E6 (by simp [cellLt]) (by simp [cellLt])
 cases ks <;> cases ls <;> simp only [mkS] at hl1 hl2 <;> simp only [go_sem,seval,h1,h3,l1,l3,hl1,hl2,mkD]
end
set_option maxHeartbeats 8000000
section
variable {K L : D} {k n a : Int}
def altN : D := .sl 5 [[dI 1,dI 0,dI 0,dI 0,.nil],[dI 5,dI 0,dI 0,dI 0,.nil],[dI 3,dI 0,dI 0,dI 0,.nil],[dI 5,dI 0,dI 0,dI 0,.nil],[dI 2,dI 0,dI 0,dI 0,.nil]]
def altF : D := .sl 6 [[dI 0,dI 1,.lit (.bool false),dI 0,dI 0,.nil],[dI 1,dI 2,.lit (.bool false),dI 10,dI 0,.sl 3 [[dI 2,dI 0,.nil],[dI 2,dI 0,.nil]]],[dI 1,dI 3,.lit (.bool true),dI 0,dI 0,.nil],[dI 2,dI 3,.lit (.bool false),dI 0,dI 0,.nil],[dI 3,dI 4,.lit (.bool false),dI 0,dI 0,.nil]]
theorem malt_f1 {c0 : Box} (hf : Cq 9 [Nq altN altF] (.tup [Wq k n a K L,I 0])) (o1 : Oq K) (o2 : Oq L)
  (ht : ∀ b0 b1 b2 b3 : Box,ev cfg (.call 26 [Wq k n a K L] [b0,b1,b2,b3]) = Rq (.tup [S ⟨#[40,97,108,116,58,49,32,50,32,45,41]⟩,I 0])) :
  Jq (.call 8 [] [c0]) = Rq (B true) := by
 simp only [altN,altF] at hf
 simp only [go_sem,seval,hf,ht,o1,o2,Int.reduceBEq]
theorem malt_f2 {c0 c1 : Box} (hf : Cq 9 [Nq altN altF] (.tup [Wq k n a K L,I 0])) (o1 : Oq K) (o2 : Oq L)
  (ht : ∀ b0 b1 b2 b3 b4 : Box,ev cfg (.call 26 [Wq k n a K L] [b0,b1,b2,b3,b4]) = Rq (.tup [S ⟨#[40,97,108,116,58,49,32,50,32,45,41]⟩,I 0])) :
  Jq (.call 8 [] [c0,c1]) = Rq (B true) := by
 simp only [altN,altF] at hf
 simp only [go_sem,seval,hf,ht,o1,o2,Int.reduceBEq]
theorem malt_f3 {c0 c1 c2 : Box} (hf : Cq 9 [Nq altN altF] (.tup [Wq k n a K L,I 0])) (o1 : Oq K) (o2 : Oq L)
  (ht : ∀ b0 b1 b2 b3 b4 b5 : Box,ev cfg (.call 26 [Wq k n a K L] [b0,b1,b2,b3,b4,b5]) = Rq (.tup [S ⟨#[40,97,108,116,58,49,32,50,32,45,41]⟩,I 0])) :
  Jq (.call 8 [] [c0,c1,c2]) = Rq (B true) := by
 simp only [altN,altF] at hf
 simp only [go_sem,seval,hf,ht,o1,o2,Int.reduceBEq]
end
section
variable {bx : List Box} {rows lr : List (List D)} {N F K L K2 L2 : D} {LP : PV} {c c2 : Box} {k n a : Int}
theorem fFold_empty (hN : Oq N) (hF : Oq F) (hK : Oq K) (hL : Oq L) (hb : ∀ r0 r1 : Box,ev cfg (.call 11 [Nq N F] (bx ++ [r0,r1])) = Rq (.tup [Wq 9 0 0 K L,I 0]))
  (ho : ∀ r0 r1 r2 : Box,ev cfg (.call 27 [Nq N F,Wq 9 0 0 K L] (bx ++ [r0,r1,r2])) = some (.ret (P5 bx) (some ⟨bx ++ [r0,r1,r2,Nb N F,Wx 9 0 0 K L,c],bx.length + 3,false⟩)))
  (hloop : ev cfg (.loop 9 5 (qs bx (sh9_5 (P1 bx) (P5 bx)) [Nb N F,E6,Wx 9 0 0 K L,Nb N F,Wx 9 0 0 K L,c])) = some (.loop (.exit 0) (qs bx (se9_5 (P1 bx) (P5 bx)) [Nb N F,E6,Wx 9 0 0 K L,Nb N F,Wx 9 0 0 K L,[.dat N,.dat F,.dat .nil,LP]]))) :
  Jq (.call 9 [Nq N F] bx) = Rq (.tup [Wq 1 0 0 .nil .nil,I 0]) := by
 have e0 : ((0 : Int) != 0) = false := rfl
 have e1 : (((0 : Nat) : Int) == 0) = true := rfl
 simp only [go_sem,seval,hN,hF,hK,hL,hb,e0,ho,hloop,e1]
theorem fFold_one (hN : Oq N) (hF : Oq F) (hK : Oq K) (hL : Oq L) (hb : ∀ r0 r1 : Box,ev cfg (.call 11 [Nq N F] (bx ++ [r0,r1])) = Rq (.tup [Wq 9 0 0 K L,I 0]))
  (ho : ∀ r0 r1 r2 : Box,ev cfg (.call 27 [Nq N F,Wq 9 0 0 K L] (bx ++ [r0,r1,r2])) = some (.ret (P5 bx) (some ⟨bx ++ [r0,r1,r2,Nb N F,Wx 9 0 0 K L,c],bx.length + 3,false⟩)))
  (hloop : ev cfg (.loop 9 5 (qs bx (sh9_5 (P1 bx) (P5 bx)) [Nb N F,E6,Wx 9 0 0 K L,Nb N F,Wx 9 0 0 K L,c])) = some (.loop (.exit 0) (qs bx (se9_5 (P1 bx) (P5 bx)) [Nb N F,E6,Wx 9 0 0 K L,Nb N F,Wx 9 0 0 K L,[.dat N,.dat F,.own true 5 rows,.own true 3 lr]]))) (n0 : ((rows.length : Int) == 0) = false) (n1 : ((rows.length : Int) == 1) = true) (hg : ev cfg (.call 29 [P5 bx,I 0] (bx ++ [Nb N F,E6,Wx 9 0 0 K L,Nb N F,Wx 9 0 0 K L,[.dat N,.dat F,.own true 5 rows,.own true 3 lr]])) = Rq (B false)) (n2 : ((lr.length : Int) == 2) = true) (hr : rows[0]? = some [dI k,dI n,dI a,K2,L2]) (hK2 : Oq K2) (hL2 : Oq L2) :
  Jq (.call 9 [Nq N F] bx) = Rq (.tup [Wq k n a K2 L2,I 0]) := by
 have e0 : ((0 : Int) != 0) = false := rfl
 have hz : 0 < rows.length := (gsi.1 hr).1
 simp only [go_sem,seval,hN,hF,hK,hL,hb,e0,ho,hloop,n0,n1,n2,hg,hr,hz,hK2,hL2]
theorem fFold_many (hN : Oq N) (hF : Oq F) (hK : Oq K) (hL : Oq L) (hb : ∀ r0 r1 : Box,ev cfg (.call 11 [Nq N F] (bx ++ [r0,r1])) = Rq (.tup [Wq 9 0 0 K L,I 0]))
  (ho : ∀ r0 r1 r2 : Box,ev cfg (.call 27 [Nq N F,Wq 9 0 0 K L] (bx ++ [r0,r1,r2])) = some (.ret (P5 bx) (some ⟨bx ++ [r0,r1,r2,Nb N F,Wx 9 0 0 K L,c],bx.length + 3,false⟩)))
  (hloop : ev cfg (.loop 9 5 (qs bx (sh9_5 (P1 bx) (P5 bx)) [Nb N F,E6,Wx 9 0 0 K L,Nb N F,Wx 9 0 0 K L,c])) = some (.loop (.exit 0) (qs bx (se9_5 (P1 bx) (P5 bx)) [Nb N F,E6,Wx 9 0 0 K L,Nb N F,Wx 9 0 0 K L,[.dat N,.dat F,.own true 5 rows,.own true 3 lr]]))) (n0 : ((rows.length : Int) == 0) = false) (n1 : ((rows.length : Int) == 1) = false) (hw : ev cfg (.call 30 [P5 bx] (bx ++ [Nb N F,E6,Wx 9 0 0 K L,Nb N F,Wx 9 0 0 K L,[.dat N,.dat F,.own true 5 rows,.own true 3 lr]])) = some (.ret (Wq 9 0 0 K2 L2) (some ⟨bx ++ [Nb N F,E6,Wx 9 0 0 K L,Nb N F,Wx 9 0 0 K L,c2],bx.length + 5,false⟩))) (hK2 : Oq K2) (hL2 : Oq L2) :
  Jq (.call 9 [Nq N F] bx) = Rq (.tup [Wq 9 0 0 K2 L2,I 0]) := by
 have e0 : ((0 : Int) != 0) = false := rfl
 simp only [go_sem,seval,hN,hF,hK,hL,hb,e0,ho,hloop,n0,n1,hw,hK2,hL2]
theorem fFold_gate (hN : Oq N) (hF : Oq F) (hK : Oq K) (hL : Oq L) (hb : ∀ r0 r1 : Box,ev cfg (.call 11 [Nq N F] (bx ++ [r0,r1])) = Rq (.tup [Wq 9 0 0 K L,I 0]))
  (ho : ∀ r0 r1 r2 : Box,ev cfg (.call 27 [Nq N F,Wq 9 0 0 K L] (bx ++ [r0,r1,r2])) = some (.ret (P5 bx) (some ⟨bx ++ [r0,r1,r2,Nb N F,Wx 9 0 0 K L,c],bx.length + 3,false⟩)))
  (hloop : ev cfg (.loop 9 5 (qs bx (sh9_5 (P1 bx) (P5 bx)) [Nb N F,E6,Wx 9 0 0 K L,Nb N F,Wx 9 0 0 K L,c])) = some (.loop (.exit 0) (qs bx (se9_5 (P1 bx) (P5 bx)) [Nb N F,E6,Wx 9 0 0 K L,Nb N F,Wx 9 0 0 K L,[.dat N,.dat F,.own true 5 rows,.own true 3 lr]]))) (n0 : ((rows.length : Int) == 0) = false) (n1 : ((rows.length : Int) == 1) = true) (hg : ev cfg (.call 29 [P5 bx,I 0] (bx ++ [Nb N F,E6,Wx 9 0 0 K L,Nb N F,Wx 9 0 0 K L,[.dat N,.dat F,.own true 5 rows,.own true 3 lr]])) = Rq (B true)) (hw : ev cfg (.call 30 [P5 bx] (bx ++ [Nb N F,E6,Wx 9 0 0 K L,Nb N F,Wx 9 0 0 K L,[.dat N,.dat F,.own true 5 rows,.own true 3 lr]])) = some (.ret (Wq 9 0 0 K2 L2) (some ⟨bx ++ [Nb N F,E6,Wx 9 0 0 K L,Nb N F,Wx 9 0 0 K L,c2],bx.length + 5,false⟩))) (hK2 : Oq K2) (hL2 : Oq L2) :
  Jq (.call 9 [Nq N F] bx) = Rq (.tup [Wq 9 0 0 K2 L2,I 0]) := by
 have e0 : ((0 : Int) != 0) = false := rfl
 simp only [go_sem,seval,hN,hF,hK,hL,hb,e0,ho,hloop,n0,n1,hg,hw,hK2,hL2]
theorem fFold_links (hN : Oq N) (hF : Oq F) (hK : Oq K) (hL : Oq L) (hb : ∀ r0 r1 : Box,ev cfg (.call 11 [Nq N F] (bx ++ [r0,r1])) = Rq (.tup [Wq 9 0 0 K L,I 0]))
  (ho : ∀ r0 r1 r2 : Box,ev cfg (.call 27 [Nq N F,Wq 9 0 0 K L] (bx ++ [r0,r1,r2])) = some (.ret (P5 bx) (some ⟨bx ++ [r0,r1,r2,Nb N F,Wx 9 0 0 K L,c],bx.length + 3,false⟩)))
  (hloop : ev cfg (.loop 9 5 (qs bx (sh9_5 (P1 bx) (P5 bx)) [Nb N F,E6,Wx 9 0 0 K L,Nb N F,Wx 9 0 0 K L,c])) = some (.loop (.exit 0) (qs bx (se9_5 (P1 bx) (P5 bx)) [Nb N F,E6,Wx 9 0 0 K L,Nb N F,Wx 9 0 0 K L,[.dat N,.dat F,.own true 5 rows,.own true 3 lr]]))) (n0 : ((rows.length : Int) == 0) = false) (n1 : ((rows.length : Int) == 1) = true) (hg : ev cfg (.call 29 [P5 bx,I 0] (bx ++ [Nb N F,E6,Wx 9 0 0 K L,Nb N F,Wx 9 0 0 K L,[.dat N,.dat F,.own true 5 rows,.own true 3 lr]])) = Rq (B false)) (n2 : ((lr.length : Int) == 2) = false) (hw : ev cfg (.call 30 [P5 bx] (bx ++ [Nb N F,E6,Wx 9 0 0 K L,Nb N F,Wx 9 0 0 K L,[.dat N,.dat F,.own true 5 rows,.own true 3 lr]])) = some (.ret (Wq 9 0 0 K2 L2) (some ⟨bx ++ [Nb N F,E6,Wx 9 0 0 K L,Nb N F,Wx 9 0 0 K L,c2],bx.length + 5,false⟩))) (hK2 : Oq K2) (hL2 : Oq L2) :
  Jq (.call 9 [Nq N F] bx) = Rq (.tup [Wq 9 0 0 K2 L2,I 0]) := by
 have e0 : ((0 : Int) != 0) = false := rfl
 simp only [go_sem,seval,hN,hF,hK,hL,hb,e0,ho,hloop,n0,n1,hg,n2,hw,hK2,hL2]
end
section
variable {bx : List Box} {pr nr : List (List D)} {N F KT : D} {KP : PV} {i : Nat} {k a op m y : Int}
theorem fbegin_end1 (hN : IsS 5 nr N) (hF : Oq F) (hget : nr[i]? = some [dI k,dI a,dI op,dI m,KT]) (hKT : Oq KT) (hlt : i < nr.length) (hmax : nr.length < 9223372036854775808) (hp : pr[i]? = some [dI y]) (hk : (k == 1) = true) {KP : List (List D)} :
  Jq (.loop 11 7 (qs bx (sh11_7 (P0 bx) (P1 bx) (P2 bx) (.own true 1 pr) (.dat N) (I nr.length) (I i)) [Nb N F,E6,[I 9,I 0,I 0,mkS 5 KP,.dat .nil]])) = ev cfg (.loop 11 7 (qs bx (sh11_7 (P0 bx) (P1 bx) (P2 bx) (.own true 1 (pr.set i [dI (-1)])) (.dat N) (I nr.length) (I ((i + 1 : Nat) : Int))) [Nb N F,E6,[I 9,I 0,I 0,mkS 5 KP,.dat .nil]])) := by
 have hlp : i < pr.length := (gsi.1 hp).1
 obtain ⟨w1,g1,g2,g3⟩ := hN
 obtain rfl := isS_w g2 hget
 cases KP <;> simp only [go_sem,seval,mkS,g1,g3,hF,hKT,nat_lt hlt,nat_neg,tnc,hget,hlt,hp,hlp,nat_succ hlt hmax,hk]
theorem fbegin_end2 (hN : IsS 5 nr N) (hF : Oq F) (hget : nr[i]? = some [dI k,dI a,dI op,dI m,KT]) (hKT : Oq KT) (hlt : i < nr.length) (hmax : nr.length < 9223372036854775808) (hp : pr[i]? = some [dI y]) (hk1 : (k == 1) = false) (hk : (k == 2) = true) {KP : List (List D)} :
  Jq (.loop 11 7 (qs bx (sh11_7 (P0 bx) (P1 bx) (P2 bx) (.own true 1 pr) (.dat N) (I nr.length) (I i)) [Nb N F,E6,[I 9,I 0,I 0,mkS 5 KP,.dat .nil]])) = ev cfg (.loop 11 7 (qs bx (sh11_7 (P0 bx) (P1 bx) (P2 bx) (.own true 1 (pr.set i [dI (-1)])) (.dat N) (I nr.length) (I ((i + 1 : Nat) : Int))) [Nb N F,E6,[I 9,I 0,I 0,mkS 5 KP,.dat .nil]])) := by
 have hlp : i < pr.length := (gsi.1 hp).1
 obtain ⟨w1,g1,g2,g3⟩ := hN
 obtain rfl := isS_w g2 hget
 cases KP <;> simp only [go_sem,seval,mkS,g1,g3,hF,hKT,nat_lt hlt,nat_neg,tnc,hget,hlt,hp,hlp,nat_succ hlt hmax,hk1,hk]
end
section
variable {bx : List Box} {pr nr : List (List D)} {N F KT : D} {i : Nat} {k a op m y : Int}
theorem fbegin_leaf0 (hN : IsS 5 nr N) (hF : Oq F) (hget : nr[i]? = some [dI k,dI a,dI op,dI m,KT]) (hKT : Oq KT) (hlt : i < nr.length) (hmax : nr.length < 9223372036854775808) (hp : pr[i]? = some [dI y]) (k1 : (k == 1) = false) (k2 : (k == 2) = false) (k5 : (k == 5) = false) (k6 : (k == 6) = false) (k7 : (k == 7) = false) :
  Jq (.loop 11 7 (qs bx (sh11_7 (P0 bx) (P1 bx) (P2 bx) (.own true 1 pr) (.dat N) (I nr.length) (I i)) [Nb N F,E6,Wx 9 0 0 .nil .nil])) = ev cfg (.loop 11 7 (qs bx (sh11_7 (P0 bx) (P1 bx) (P2 bx) (.own true 1 (pr.set i [dI (0 : Nat)])) (.dat N) (I nr.length) (I ((i + 1 : Nat) : Int))) [Nb N F,E6,[I 9,I 0,I 0,.own true 5 [[dI 2,dI i,dI 0,.nil,.nil]],.dat .nil]])) := by
 have hlp : i < pr.length := (gsi.1 hp).1
 obtain ⟨w1,g1,g2,g3⟩ := hN
 obtain rfl := isS_w g2 hget
 simp only [go_sem,seval,g1,g3,hF,hKT,nat_lt hlt,nat_neg,tnc,hget,hlt,hp,hlp,nat_succ hlt hmax,k1,k2,k5,k6,k7,lls,gss hlp,List.set_set]
theorem fbegin_g50 (hN : IsS 5 nr N) (hF : Oq F) (hget : nr[i]? = some [dI k,dI a,dI op,dI m,KT]) (hKT : Oq KT) (hlt : i < nr.length) (hmax : nr.length < 9223372036854775808) (hp : pr[i]? = some [dI y]) (k1 : (k == 1) = false) (k2 : (k == 2) = false) (k5 : (k == 5) = true) :
  Jq (.loop 11 7 (qs bx (sh11_7 (P0 bx) (P1 bx) (P2 bx) (.own true 1 pr) (.dat N) (I nr.length) (I i)) [Nb N F,E6,Wx 9 0 0 .nil .nil])) = ev cfg (.loop 11 7 (qs bx (sh11_7 (P0 bx) (P1 bx) (P2 bx) (.own true 1 (pr.set i [dI (0 : Nat)])) (.dat N) (I nr.length) (I ((i + 1 : Nat) : Int))) [Nb N F,E6,[I 9,I 0,I 0,.own true 5 [[dI 8,dI i,dI 0,.nil,.nil]],.dat .nil]])) := by
 have hlp : i < pr.length := (gsi.1 hp).1
 obtain ⟨w1,g1,g2,g3⟩ := hN
 obtain rfl := isS_w g2 hget
 simp only [go_sem,seval,g1,g3,hF,hKT,nat_lt hlt,nat_neg,tnc,hget,hlt,hp,hlp,nat_succ hlt hmax,k1,k2,k5,lls,gss hlp,List.set_set]
theorem fbegin_g60 (hN : IsS 5 nr N) (hF : Oq F) (hget : nr[i]? = some [dI k,dI a,dI op,dI m,KT]) (hKT : Oq KT) (hlt : i < nr.length) (hmax : nr.length < 9223372036854775808) (hp : pr[i]? = some [dI y]) (k1 : (k == 1) = false) (k2 : (k == 2) = false) (k5 : (k == 5) = false) (k6 : (k == 6) = true) :
  Jq (.loop 11 7 (qs bx (sh11_7 (P0 bx) (P1 bx) (P2 bx) (.own true 1 pr) (.dat N) (I nr.length) (I i)) [Nb N F,E6,Wx 9 0 0 .nil .nil])) = ev cfg (.loop 11 7 (qs bx (sh11_7 (P0 bx) (P1 bx) (P2 bx) (.own true 1 (pr.set i [dI (0 : Nat)])) (.dat N) (I nr.length) (I ((i + 1 : Nat) : Int))) [Nb N F,E6,[I 9,I 0,I 0,.own true 5 [[dI 8,dI i,dI 0,.nil,.nil]],.dat .nil]])) := by
 have hlp : i < pr.length := (gsi.1 hp).1
 obtain ⟨w1,g1,g2,g3⟩ := hN
 obtain rfl := isS_w g2 hget
 simp only [go_sem,seval,g1,g3,hF,hKT,nat_lt hlt,nat_neg,tnc,hget,hlt,hp,hlp,nat_succ hlt hmax,k1,k2,k5,k6,lls,gss hlp,List.set_set]
theorem fbegin_g70 (hN : IsS 5 nr N) (hF : Oq F) (hget : nr[i]? = some [dI k,dI a,dI op,dI m,KT]) (hKT : Oq KT) (hlt : i < nr.length) (hmax : nr.length < 9223372036854775808) (hp : pr[i]? = some [dI y]) (k1 : (k == 1) = false) (k2 : (k == 2) = false) (k5 : (k == 5) = false) (k6 : (k == 6) = false) (k7 : (k == 7) = true) :
  Jq (.loop 11 7 (qs bx (sh11_7 (P0 bx) (P1 bx) (P2 bx) (.own true 1 pr) (.dat N) (I nr.length) (I i)) [Nb N F,E6,Wx 9 0 0 .nil .nil])) = ev cfg (.loop 11 7 (qs bx (sh11_7 (P0 bx) (P1 bx) (P2 bx) (.own true 1 (pr.set i [dI (0 : Nat)])) (.dat N) (I nr.length) (I ((i + 1 : Nat) : Int))) [Nb N F,E6,[I 9,I 0,I 0,.own true 5 [[dI 8,dI i,dI 0,.nil,.nil]],.dat .nil]])) := by
 have hlp : i < pr.length := (gsi.1 hp).1
 obtain ⟨w1,g1,g2,g3⟩ := hN
 obtain rfl := isS_w g2 hget
 simp only [go_sem,seval,g1,g3,hF,hKT,nat_lt hlt,nat_neg,tnc,hget,hlt,hp,hlp,nat_succ hlt hmax,k1,k2,k5,k6,k7,lls,gss hlp,List.set_set]
end
section
variable {bx : List Box} {pr ks nr : List (List D)} {N F KT : D} {i : Nat} {k a op m y : Int}
theorem fbegin_leaf1 (hN : IsS 5 nr N) (hF : Oq F) (hget : nr[i]? = some [dI k,dI a,dI op,dI m,KT]) (hKT : Oq KT) (hlt : i < nr.length) (hmax : nr.length < 9223372036854775808) (hp : pr[i]? = some [dI y]) (k1 : (k == 1) = false) (k2 : (k == 2) = false) (k5 : (k == 5) = false) (k6 : (k == 6) = false) (k7 : (k == 7) = false) (hks : (ks.length + 1) * 72 <= 140737488355328) :
  Jq (.loop 11 7 (qs bx (sh11_7 (P0 bx) (P1 bx) (P2 bx) (.own true 1 pr) (.dat N) (I nr.length) (I i)) [Nb N F,E6,[I 9,I 0,I 0,.own true 5 ks,.dat .nil]])) = ev cfg (.loop 11 7 (qs bx (sh11_7 (P0 bx) (P1 bx) (P2 bx) (.own true 1 (pr.set i [dI (ks.length : Nat)])) (.dat N) (I nr.length) (I ((i + 1 : Nat) : Int))) [Nb N F,E6,[I 9,I 0,I 0,.own true 5 (ks ++ [[dI 2,dI i,dI 0,.nil,.nil]]),.dat .nil]])) := by
 have hlp : i < pr.length := (gsi.1 hp).1
 obtain ⟨w1,g1,g2,g3⟩ := hN
 obtain rfl := isS_w g2 hget
 simp only [go_sem,seval,g1,g3,hF,hKT,nat_lt hlt,nat_neg,tnc,hget,hlt,hp,hlp,nat_succ hlt hmax,k1,k2,k5,k6,k7,hks,lls,gss hlp,List.set_set]
theorem fbegin_g51 (hN : IsS 5 nr N) (hF : Oq F) (hget : nr[i]? = some [dI k,dI a,dI op,dI m,KT]) (hKT : Oq KT) (hlt : i < nr.length) (hmax : nr.length < 9223372036854775808) (hp : pr[i]? = some [dI y]) (k1 : (k == 1) = false) (k2 : (k == 2) = false) (k5 : (k == 5) = true) (hks : (ks.length + 1) * 72 <= 140737488355328) :
  Jq (.loop 11 7 (qs bx (sh11_7 (P0 bx) (P1 bx) (P2 bx) (.own true 1 pr) (.dat N) (I nr.length) (I i)) [Nb N F,E6,[I 9,I 0,I 0,.own true 5 ks,.dat .nil]])) = ev cfg (.loop 11 7 (qs bx (sh11_7 (P0 bx) (P1 bx) (P2 bx) (.own true 1 (pr.set i [dI (ks.length : Nat)])) (.dat N) (I nr.length) (I ((i + 1 : Nat) : Int))) [Nb N F,E6,[I 9,I 0,I 0,.own true 5 (ks ++ [[dI 8,dI i,dI 0,.nil,.nil]]),.dat .nil]])) := by
 have hlp : i < pr.length := (gsi.1 hp).1
 obtain ⟨w1,g1,g2,g3⟩ := hN
 obtain rfl := isS_w g2 hget
 simp only [go_sem,seval,g1,g3,hF,hKT,nat_lt hlt,nat_neg,tnc,hget,hlt,hp,hlp,nat_succ hlt hmax,k1,k2,k5,hks,lls,gss hlp,List.set_set]
theorem fbegin_g61 (hN : IsS 5 nr N) (hF : Oq F) (hget : nr[i]? = some [dI k,dI a,dI op,dI m,KT]) (hKT : Oq KT) (hlt : i < nr.length) (hmax : nr.length < 9223372036854775808) (hp : pr[i]? = some [dI y]) (k1 : (k == 1) = false) (k2 : (k == 2) = false) (k5 : (k == 5) = false) (k6 : (k == 6) = true) (hks : (ks.length + 1) * 72 <= 140737488355328) :
  Jq (.loop 11 7 (qs bx (sh11_7 (P0 bx) (P1 bx) (P2 bx) (.own true 1 pr) (.dat N) (I nr.length) (I i)) [Nb N F,E6,[I 9,I 0,I 0,.own true 5 ks,.dat .nil]])) = ev cfg (.loop 11 7 (qs bx (sh11_7 (P0 bx) (P1 bx) (P2 bx) (.own true 1 (pr.set i [dI (ks.length : Nat)])) (.dat N) (I nr.length) (I ((i + 1 : Nat) : Int))) [Nb N F,E6,[I 9,I 0,I 0,.own true 5 (ks ++ [[dI 8,dI i,dI 0,.nil,.nil]]),.dat .nil]])) := by
 have hlp : i < pr.length := (gsi.1 hp).1
 obtain ⟨w1,g1,g2,g3⟩ := hN
 obtain rfl := isS_w g2 hget
 simp only [go_sem,seval,g1,g3,hF,hKT,nat_lt hlt,nat_neg,tnc,hget,hlt,hp,hlp,nat_succ hlt hmax,k1,k2,k5,k6,hks,lls,gss hlp,List.set_set]
theorem fbegin_g71 (hN : IsS 5 nr N) (hF : Oq F) (hget : nr[i]? = some [dI k,dI a,dI op,dI m,KT]) (hKT : Oq KT) (hlt : i < nr.length) (hmax : nr.length < 9223372036854775808) (hp : pr[i]? = some [dI y]) (k1 : (k == 1) = false) (k2 : (k == 2) = false) (k5 : (k == 5) = false) (k6 : (k == 6) = false) (k7 : (k == 7) = true) (hks : (ks.length + 1) * 72 <= 140737488355328) :
  Jq (.loop 11 7 (qs bx (sh11_7 (P0 bx) (P1 bx) (P2 bx) (.own true 1 pr) (.dat N) (I nr.length) (I i)) [Nb N F,E6,[I 9,I 0,I 0,.own true 5 ks,.dat .nil]])) = ev cfg (.loop 11 7 (qs bx (sh11_7 (P0 bx) (P1 bx) (P2 bx) (.own true 1 (pr.set i [dI (ks.length : Nat)])) (.dat N) (I nr.length) (I ((i + 1 : Nat) : Int))) [Nb N F,E6,[I 9,I 0,I 0,.own true 5 (ks ++ [[dI 8,dI i,dI 0,.nil,.nil]]),.dat .nil]])) := by
 have hlp : i < pr.length := (gsi.1 hp).1
 obtain ⟨w1,g1,g2,g3⟩ := hN
 obtain rfl := isS_w g2 hget
 simp only [go_sem,seval,g1,g3,hF,hKT,nat_lt hlt,nat_neg,tnc,hget,hlt,hp,hlp,nat_succ hlt hmax,k1,k2,k5,k6,k7,hks,lls,gss hlp,List.set_set]
end
section
variable {bx : List Box} {pr ks ls fr : List (List D)} {N F KT : D} {i p q : Nat} {op m fv tv : Int} {els : Bool}
theorem fbegin_l0 (hN : Oq N) (hF : IsS 6 fr F) (hget : fr[i]? = some [dI (p : Nat),dI (q : Nat),.lit (.bool els),dI op,dI m,KT]) (hKT : Oq KT) (hlt : i < fr.length) (hmax : fr.length < 9223372036854775808) (hp : pr[p]? = some [dI fv]) (hq : pr[q]? = some [dI tv]) :
  Jq (.loop 11 22 (qs bx (sh11_22 (P1 bx) (P2 bx) (.own true 1 pr) (.dat F) (I fr.length) (I i)) [Nb N F,E6,[I 9,I 0,I 0,mkS 5 ks,.dat .nil]])) = ev cfg (.loop 11 22 (qs bx (sh11_22 (P1 bx) (P2 bx) (.own true 1 pr) (.dat F) (I fr.length) (I ((i + 1 : Nat) : Int))) [Nb N F,E6,[I 9,I 0,I 0,mkS 5 ks,.own true 3 [[dI fv,dI tv,dI i]]]])) := by
 have hlp : p < pr.length := (gsi.1 hp).1
 have hlq : q < pr.length := (gsi.1 hq).1
 obtain ⟨w1,g1,g2,g3⟩ := hF
 obtain rfl := isS_w g2 hget
 cases ks <;> simp only [go_sem,seval,mkS,g1,g3,hN,hKT,nat_lt hlt,nat_neg,tnc,hget,hlt,hp,hlp,hq,hlq,nat_succ hlt hmax]
theorem fbegin_l1 (hN : Oq N) (hF : IsS 6 fr F) (hget : fr[i]? = some [dI (p : Nat),dI (q : Nat),.lit (.bool els),dI op,dI m,KT]) (hKT : Oq KT) (hlt : i < fr.length) (hmax : fr.length < 9223372036854775808) (hp : pr[p]? = some [dI fv]) (hq : pr[q]? = some [dI tv]) (hks : (ls.length + 1) * 24 <= 140737488355328) :
  Jq (.loop 11 22 (qs bx (sh11_22 (P1 bx) (P2 bx) (.own true 1 pr) (.dat F) (I fr.length) (I i)) [Nb N F,E6,[I 9,I 0,I 0,mkS 5 ks,.own true 3 ls]])) = ev cfg (.loop 11 22 (qs bx (sh11_22 (P1 bx) (P2 bx) (.own true 1 pr) (.dat F) (I fr.length) (I ((i + 1 : Nat) : Int))) [Nb N F,E6,[I 9,I 0,I 0,mkS 5 ks,.own true 3 (ls ++ [[dI fv,dI tv,dI i]])]])) := by
 have hlp : p < pr.length := (gsi.1 hp).1
 have hlq : q < pr.length := (gsi.1 hq).1
 obtain ⟨w1,g1,g2,g3⟩ := hF
 obtain rfl := isS_w g2 hget
 cases ks <;> simp only [go_sem,seval,mkS,g1,g3,hN,hKT,nat_lt hlt,nat_neg,tnc,hget,hlt,hp,hlp,hq,hlq,nat_succ hlt hmax,hks]
end
end Go.Proofs.YtifckjhggamefaaGreatDoor
