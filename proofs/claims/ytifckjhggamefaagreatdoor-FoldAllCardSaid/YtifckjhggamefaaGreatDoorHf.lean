/- Rounds of the folder's small methods: follow, part; parts, row, Clone, web, of. No condition. -/
import Derived.Test.YtifckjhggamefaaGreatDoorQb
import Derived.Test.YtifckjhggamefaaGreatDoorHa
set_option linter.unusedSimpArgs false
set_option linter.unusedVariables false
set_option linter.unusedSectionVars false
namespace Go.Proofs.YtifckjhggamefaaGreatDoor
open Go Go.Vx
set_option maxHeartbeats 4000000
set_option maxRecDepth 10000
section
variable {bx : List Box} {rows lr rs : List (List D)} {N F K L R : D} {Y : PV} {i l o : Nat} {k n a f t w to b la t2 f2 w2 : Int}
theorem ffollow_neg (hl : l < bx.length) (hb : bx[l]? = some [.dat N,.dat F,Y,.own true 3 lr]) (hget : lr[i]? = some [dI f,dI t,dI w]) (ht : decide (t < 0) = true) : Jq (.call 98 [.ptr l 0,I i] bx) = Rq (Aq t (-1) i) := by
 have hlt : i < lr.length := (gsi.1 hget).1
 simp only [go_sem,seval,hl,hb,hget,hlt,nat_neg,tnc,ht]
theorem ffollow_gate (hl : l < bx.length) (hb : bx[l]? = some [.dat N,.dat F,Y,.own true 3 lr]) (hget : lr[i]? = some [dI f,dI t,dI w]) (ht : decide (t < 0) = false) (hg : ∀ r : Box,ev cfg (.call 29 [.ptr l 0,I t] (bx ++ [r])) = Rq (B true)) : Jq (.call 98 [.ptr l 0,I i] bx) = Rq (Aq t (-1) i) := by
 have hlt : i < lr.length := (gsi.1 hget).1
 simp only [go_sem,seval,hl,hb,hget,hlt,nat_neg,tnc,ht,hg]
theorem ffollow_f (hl : l < bx.length) (hb : bx[l]? = some [.dat N,.dat F,Y,.own true 3 lr]) (hget : lr[i]? = some [dI f,dI t,dI w]) (ht : decide (t < 0) = false) (hg : ∀ r : Box,ev cfg (.call 29 [.ptr l 0,I t] (bx ++ [r])) = Rq (B false))
  (ho : ∀ r : Box,ev cfg (.call 84 [.ptr l 0,I t] (bx ++ [r])) = Rq (.own true 1 ([dI o] :: rs))) (hget2 : lr[o]? = some [dI f2,dI t2,dI w2]) :
  Jq (.call 98 [.ptr l 0,I i] bx) = Rq (Aq t2 t o) := by
 have hlt : i < lr.length := (gsi.1 hget).1
 have hlt2 : o < lr.length := (gsi.1 hget2).1
 have hz : 0 < rs.length + 1 := by omega
 simp only [go_sem,seval,hl,hb,hget,hlt,hget2,hlt2,nat_neg,tnc,ht,hg,ho,hz]
theorem fpart_neg (hl : l < bx.length) (h : decide (b < 0) = true) : Jq (.call 97 [.ptr l 0,Aq to b la] bx) = Rq (Wq 1 0 0 .nil .nil) := by
 simp only [go_sem,seval,hl,h]
theorem fpart_f (hl : l < bx.length) (hb : bx[l]? = some [.dat N,.dat F,.own true 5 rows,Y]) (hget : rows[i]? = some [dI k,dI n,dI a,K,L]) (hK : Oq K) (hL : Oq L) : Jq (.call 97 [.ptr l 0,Aq to i la] bx) = Rq (Wq k n a K L) := by
 have hlt : i < rows.length := (gsi.1 hget).1
 simp only [go_sem,seval,hl,hb,hget,hlt,nat_neg,tnc,hK,hL]
theorem fparts_f (hK : Oq K) (hL : Oq L) : Jq (.call 92 [Wq k n a K L] bx) = Rq (if (k == 3) = true then .dat K else if (k == 1) = true then .dat .nil else .dat (.sl 5 [[dI k,dI n,dI a,K,L]])) := by
 cases c0 : (k == 3)
 ·cases c1 : (k == 1) <;> simp only [go_sem,seval,hK,hL,c0,c1]
 ·simp only [go_sem,seval,hK,hL,c0]
theorem frow_0 (hR : IsS 5 [] R) : Jq (.call 91 [.dat R] bx) = Rq (Wq 1 0 0 .nil .nil) := by
 obtain ⟨w1,h1,h2,h3⟩ := hR
 have z0 : ((((0 : Nat) : Int)) == 0) = true := rfl
 simp only [go_sem,seval,h1,h3,z0]
theorem frow_1 (hR : IsS 5 [[dI k,dI n,dI a,K,L]] R) (hK : Oq K) (hL : Oq L) : Jq (.call 91 [.dat R] bx) = Rq (Wq k n a K L) := by
 obtain ⟨w1,h1,h2,h3⟩ := hR
 obtain rfl := isS_w (i := 0) h2 rfl
 have z0 : ((((1 : Nat) : Int)) == 0) = false := rfl
 have z1 : ((((1 : Nat) : Int)) == 1) = true := rfl
 simp only [go_sem,seval,h1,h3,hK,hL,z0,z1]
theorem frow_n {r1 r2 : List D} (hR : IsS 5 (r1 :: r2 :: rs) R) (hc : ∀ r : Box,ev cfg (.call 60 [.dat R] (bx ++ [r])) = Rq (.own true 5 (r1 :: r2 :: rs))) (hmax : (r1 :: r2 :: rs).length < 9223372036854775808) :
  Jq (.call 91 [.dat R] bx) = Rq (Wq 3 0 0 (.sl 5 (r1 :: r2 :: rs)) .nil) := by
 obtain ⟨w1,h1,h2,h3⟩ := hR
 have e0 : ((((r1 :: r2 :: rs).length : Nat) : Int) == 0) = false := by simp; omega
 have e1 : ((((r1 :: r2 :: rs).length : Nat) : Int) == 1) = false := by simp; omega
 rw [List.length_cons,List.length_cons] at e0 e1
 simp only [go_sem,seval,h1,h3,e0,e1,hc]
theorem clone5_nil : Jq (.call 60 [.dat .nil] bx) = Rq (.dat .nil) := by
 simp only [go_sem,seval]
theorem clone5_rows {r : List D} {rs : List (List D)} (hks : (rs.length + 1) * 72 <= 140737488355328) : Jq (.call 60 [.dat (.sl 5 (r :: rs))] bx) = Rq (.own true 5 (r :: rs)) := by
 simp only [go_sem,seval,hks]
theorem clone3_nil : Jq (.call 61 [.dat .nil] bx) = Rq (.dat .nil) := by
 simp only [go_sem,seval]
theorem clone3_rows {r : List D} {rs : List (List D)} (hks : (rs.length + 1) * 24 <= 140737488355328) : Jq (.call 61 [.dat (.sl 3 (r :: rs))] bx) = Rq (.own true 3 (r :: rs)) := by
 simp only [go_sem,seval,hks]
theorem fweb_f {r x : List D} {rs xs : List (List D)} (hl : l < bx.length) (hb : bx[l]? = some [.dat N,.dat F,.own true 5 (r :: rs),.own true 3 (x :: xs)]) : Jq (.call 30 [.ptr l 0] bx) =
  some (.ret (Wq 9 0 0 (.sl 5 (r :: rs)) (.sl 3 (x :: xs))) (some ⟨bx.set l [.dat N,.dat F,.own false 5 (r :: rs),.own false 3 (x :: xs)],l,false⟩)) := by
 simp only [go_sem,seval,hl,hb]
theorem fof_f (hN : Oq N) (hF : Oq F) (hK : Oq K) (hL : Oq L) (h1 : Cq 60 [.dat K] (mkS 5 rows)) (h2 : Cq 61 [.dat L] (mkS 3 lr)) :
  Jq (.call 27 [Nq N F,Wq k n a K L] bx) = some (.ret (P2 bx) (some ⟨bx ++ [Nb N F,Wx k n a K L,[.dat N,.dat F,mkS 5 rows,mkS 3 lr]],bx.length,false⟩)) := by
 cases rows <;> cases lr <;> simp only [mkS] at h1 h2 <;> simp only [go_sem,seval,hN,hF,hK,hL,h1,h2,mkS]
end
def iR (zs : List Int) : List (List D) := zs.map fun z => [dI z]
theorem iR_len (xs : List Int) : (iR xs).length = xs.length := by simp [iR]
def nR (ks : List Nat) : List (List D) := iR (ks.map fun (k : Nat) => (k : Int))
theorem nR_app (xs ys : List Nat) : nR (xs ++ ys) = nR xs ++ nR ys := by simp [nR,iR]
theorem nR_len (xs : List Nat) : (nR xs).length = xs.length := by simp [nR,iR]
section
variable {bx : List Box} {xr : List (List D)} {X : D} {i : Nat} {x y : Int}
theorem fIdx_round (hX : IsS 1 xr X) (hget : xr[i]? = some [dI y]) (hlt : i < xr.length) (hmax : xr.length < 9223372036854775808) :
  Jq (.loop 81 2 (q0 bx (sh81_2 (.dat X) (I x) (I xr.length) (I i)))) =
   if (x == y) = true then some (.loop .ret (q0 bx (se81_2 (I i)))) else ev cfg (.loop 81 2 (q0 bx (sh81_2 (.dat X) (I x) (I xr.length) (I ((i + 1 : Nat) : Int))))) := by
 obtain ⟨w,h1,h2,h3⟩ := hX
 obtain rfl := isS_w h2 hget
 cases c0 : (x == y) <;> simp only [go_sem,seval,h1,h3,nat_lt hlt,nat_neg,tnc,hget,nat_succ hlt hmax,c0]
theorem fIdx_stop (hX : Oq X) {m : Nat} (hge : m <= i) :
  Jq (.loop 81 2 (q0 bx (sh81_2 (.dat X) (I x) (I m) (I i)))) = some (.loop (.exit 0) (q0 bx (se81_2 .dead))) := by
 simp only [go_sem,seval,hX,nat_ge hge]
theorem fIdx_call {y : Option Nat} (hX : IsS 1 xr X)
  (hloop : ev cfg (.loop 81 2 (q0 bx (sh81_2 (.dat X) (I x) (I xr.length) (I 0)))) = some (match y with
   | some j => .loop .ret (q0 bx (se81_2 (I j)))
   | none => .loop (.exit 0) (q0 bx (se81_2 .dead)))) :
  Jq (.call 81 [.dat X,I x] bx) = Rq (I (match y with | some j => (j : Int) | none => -1)) := by
 obtain ⟨w,h1,h2,h3⟩ := hX
 cases y <;> simp only at hloop <;> simp only [go_sem,seval,h1,h3,hloop]
theorem fHas_call {y : Int} (hX : Oq X) (hc : ev cfg (.call 81 [.dat X,I x] bx) = Rq (I y)) :
  Jq (.call 49 [.dat X,I x] bx) = Rq (B (decide (y >= 0))) := by
 simp only [go_sem,seval,hX,hc]
end
theorem fHas_ev (xs : List Int) (X : D) (hX : IsS 1 (iR xs) X) (hlen : xs.length < 1000000) (x : Int) (bx : List Box) : ev cfg (.call 49 [.dat X,I x] bx) = Rq (B (xs.any fun y => x == y)) := by
 have oX : Oq X := by obtain ⟨_,_,_,h⟩ := hX; exact h
 have hl : (iR xs).length = xs.length := iR_len xs
 have loop : ∀ (ys : List Int) (i : Nat),xs.drop i = ys -> ∃ q : Option Nat,q.isSome = (ys.any fun y => x == y) /\ ev cfg (.loop 81 2 (q0 bx (sh81_2 (.dat X) (I x) (I (iR xs).length) (I i)))) = some (match q with
   | some j => .loop .ret (q0 bx (se81_2 (I j)))
   | none => .loop (.exit 0) (q0 bx (se81_2 .dead))) := by
  intro ys
  induction ys with
  | nil =>
   intro i hd
   exact ⟨none,rfl,es (fIdx_stop oX (by rw [hl]; exact drop_nil hd))⟩
  | cons y ys ih =>
   intro i hd
   obtain ⟨hget,hd',hlt⟩ := drop_cons hd
   have hr := fIdx_round (bx := bx) (x := x) (y := y) (i := i) hX (by simp [iR,hget]) (by rw [hl]; exact hlt) (by rw [hl]; omega)
   rw [List.any_cons]
   by_cases hx : (x == y) = true
   ·rw [if_pos hx] at hr
    exact ⟨some i,by rw [hx]; rfl,es hr⟩
   ·rw [if_neg hx] at hr
    obtain ⟨q,h1,h2⟩ := ih (i + 1) hd'
    rw [Bool.not_eq_true] at hx
    exact ⟨q,by rw [hx,Bool.false_or]; exact h1,es (hr.trans h2)⟩
 obtain ⟨q,h1,h2⟩ := loop xs 0 rfl
 have hc := es (fHas_call oX (es (fIdx_call hX h2)))
 rw [hc]
 cases q with
 | some j =>
  have e : (xs.any fun y => x == y) = true := h1.symm
  rw [e]
  have : decide (((j : Nat) : Int) >= 0) = true := dqt (by omega)
  simp only [this]
 | none =>
  have e : (xs.any fun y => x == y) = false := h1.symm
  rw [e]; rfl
section
variable {bx : List Box} {c : Box} {l : Nat}
theorem fstep_1 (hl : l < bx.length) (h1 : ev cfg (.call 62 [.ptr l 0] bx) = some (.ret (B true) (some ⟨bx.set l c,l,false⟩))) :
  Jq (.call 28 [.ptr l 0] bx) = some (.ret (I 1) (some ⟨bx.set l c,l,false⟩)) := by
 simp only [go_sem,seval,hl,h1]
theorem fstep_2 (hl : l < bx.length) (h1 : ev cfg (.call 62 [.ptr l 0] bx) = Rq (B false)) (h2 : ev cfg (.call 63 [.ptr l 0] bx) = some (.ret (B true) (some ⟨bx.set l c,l,false⟩))) :
  Jq (.call 28 [.ptr l 0] bx) = some (.ret (I 2) (some ⟨bx.set l c,l,false⟩)) := by
 simp only [go_sem,seval,hl,h1,h2]
theorem fstep_3 (hl : l < bx.length) (h1 : ev cfg (.call 62 [.ptr l 0] bx) = Rq (B false)) (h2 : ev cfg (.call 63 [.ptr l 0] bx) = Rq (B false)) (h3 : ev cfg (.call 64 [.ptr l 0] bx) = some (.ret (B true) (some ⟨bx.set l c,l,false⟩))) :
  Jq (.call 28 [.ptr l 0] bx) = some (.ret (I 3) (some ⟨bx.set l c,l,false⟩)) := by
 simp only [go_sem,seval,hl,h1,h2,h3]
theorem fstep_0 (hl : l < bx.length) (h1 : ev cfg (.call 62 [.ptr l 0] bx) = Rq (B false)) (h2 : ev cfg (.call 63 [.ptr l 0] bx) = Rq (B false)) (h3 : ev cfg (.call 64 [.ptr l 0] bx) = Rq (B false)) :
  Jq (.call 28 [.ptr l 0] bx) = Rq (I 0) := by
 simp only [go_sem,seval,hl,h1,h2,h3]
end
section
variable {bx : List Box} {N F : D} {c c2 z0 z1 z2 z3 z4 : Box} {k e : Int}
theorem fFold_go (y0 : z0.all (cellLt (bx.length + 6)) = true) (y1 : z1.all (cellLt (bx.length + 6)) = true) (y2 : z2.all (cellLt (bx.length + 6)) = true) (y3 : z3.all (cellLt (bx.length + 6)) = true) (y4 : z4.all (cellLt (bx.length + 6)) = true) (yc : c.all (cellLt (bx.length + 6)) = true) (yd : c2.all (cellLt (bx.length + 6)) = true) (hs : ev cfg (.call 28 [P5 bx] (bx ++ [z0,z1,z2,z3,z4,c])) = some (.ret (I k) (some ⟨bx ++ [z0,z1,z2,z3,z4,c2],bx.length + 5,false⟩))) (hk : (k != 0) = true) :
  Jq (.loop 9 5 (qs bx (sh9_5 (P1 bx) (P5 bx)) [z0,z1,z2,z3,z4,c])) = ev cfg (.loop 9 5 (qs bx (sh9_5 (P1 bx) (P5 bx)) [z0,z1,z2,z3,z4,c2])) := by
 simp only [go_sem,seval,hs,hk,y0,y1,y2,y3,y4,yc,yd]
theorem fFold_stop (y0 : z0.all (cellLt (bx.length + 6)) = true) (y1 : z1.all (cellLt (bx.length + 6)) = true) (y2 : z2.all (cellLt (bx.length + 6)) = true) (y3 : z3.all (cellLt (bx.length + 6)) = true) (y4 : z4.all (cellLt (bx.length + 6)) = true) (yc : c.all (cellLt (bx.length + 6)) = true) (hs : ev cfg (.call 28 [P5 bx] (bx ++ [z0,z1,z2,z3,z4,c])) = Rq (I 0)) :
  Jq (.loop 9 5 (qs bx (sh9_5 (P1 bx) (P5 bx)) [z0,z1,z2,z3,z4,c])) = some (.loop (.exit 0) (qs bx (se9_5 (P1 bx) (P5 bx)) [z0,z1,z2,z3,z4,c])) := by
 have e0 : ((0 : Int) != 0) = false := rfl
 simp only [go_sem,seval,hs,e0,y0,y1,y2,y3,y4,yc]
theorem fFold_err (hN : Oq N) (hF : Oq F) (hb : ∀ r0 r1 : Box,ev cfg (.call 11 [Nq N F] (bx ++ [r0,r1])) = Rq (.tup [Wq 0 0 0 .nil .nil,I e])) (he : (e != 0) = true) :
  Jq (.call 9 [Nq N F] bx) = Rq (.tup [Wq 0 0 0 .nil .nil,I e]) := by
 simp only [go_sem,seval,hN,hF,hb,he]
end
theorem isB_one {b : Blk} {k n a : Int} {K L : D} (h : IsB b k n a K L) : Oq K /\ Oq L := by
 cases b
 rw [IsB] at h
 obtain ⟨_,_,_,_,_,_,rows,⟨_,_,_,h1⟩,_,_,⟨_,_,_,h2⟩,_⟩ := h
 exact ⟨h1,h2⟩
set_option maxHeartbeats 8000000
section
variable {bx : List Box} {acc : List (List D)} {N F K L K2 L2 : D} {l l0 : Nat} {k a n k2 n2 a2 r q : Int} {v : Bool}
theorem clone_nil : Jq (.call 46 [.dat .nil] bx) = Rq (.dat .nil) := by
 simp only [go_sem,seval]
theorem clone_rows {r : List D} {rs : List (List D)} (hks : (rs.length + 1) * 8 <= 140737488355328) : Jq (.call 46 [.dat (.sl 1 (r :: rs))] bx) = Rq (.own true 1 (r :: rs)) := by
 simp only [go_sem,seval,hks]
theorem nest1_f (hK : Oq K2) (hL : Oq L2) (hN : Oq N) (hF : Oq F) (hl0 : l0 < bx.length) (hl : l < bx.length) (b0 : bx[l0]? = some (Wx k n a K L)) (b1 : bx[l]? = some (Nb N F))
  (hv : Cq 43 [Nq N F,Wq k2 n2 a2 K2 L2] (B v)) :
  Jq (.call 75 [Wq k2 n2 a2 K2 L2,.ptr l0 0,.ptr l 0] bx) = Rq (B (k2 == 9 || (k2 == 10 || ((k2 == 8 && k != 9) || !v)))) := by
 cases c0 : (k2 == 9)
 ·cases c1 : (k2 == 10)
  ·cases c2 : (k2 == 8)
   ·simp only [go_sem,seval,hK,hL,hN,hF,hl0,hl,b0,b1,hv,c0,c1,c2]
   ·cases c3 : (k != 9)
    ·simp only [go_sem,seval,hK,hL,hN,hF,hl0,hl,b0,b1,hv,c0,c1,c2,c3]
    ·simp only [go_sem,seval,hK,hL,hN,hF,hl0,hl,b0,b1,hv,c0,c1,c2,c3]
  ·simp only [go_sem,seval,hK,hL,hN,hF,hl0,hl,b0,b1,hv,c0,c1]
 ·simp only [go_sem,seval,hK,hL,hN,hF,hl0,hl,b0,b1,hv,c0]
theorem nest_no (hK : Oq K) (hL : Oq L) (hN : Oq N) (hF : Oq F) (hr : Cq 73 [Nq N F,Wq k n a K L] (B false)) :
  Jq (.call 43 [Nq N F,Wq k n a K L] bx) = Rq (B false) := by
 simp only [go_sem,seval,hK,hL,hN,hF,hr]
theorem nest_f (hK : Oq K) (hL : Oq L) (hN : Oq N) (hF : Oq F) (hr : Cq 73 [Nq N F,Wq k n a K L] (B true))
  (hv : ev cfg (.call 74 [.dat K,.clo 75 [bx.length + 1,bx.length]] (bx ++ [Nb N F,Wx k n a K L])) = Rq (B v)) :
  Jq (.call 43 [Nq N F,Wq k n a K L] bx) = Rq (B (!v)) := by
 simp only [go_sem,seval,hK,hL,hN,hF,hr,hv]
theorem bcheck_arg (hK : Oq K) (hL : Oq L) (hN : Oq N) (hF : Oq F) (hn : Cq 33 [Nq N F] (.tup [I r,I q])) (hr : (r != 0) = true) :
  Jq (.call 19 [Nq N F,Wq k n a K L] bx) = Rq (I 1) := by
 simp only [go_sem,seval,hK,hL,hN,hF,hn,hr]
theorem bcheck_long (hK : Oq K) (hL : Oq L) (hN : Oq N) (hF : Oq F) (hn : Cq 33 [Nq N F] (.tup [I 0,I q])) (hlg : Cq 42 [Wq k n a K L] (B true)) :
  Jq (.call 19 [Nq N F,Wq k n a K L] bx) = Rq (I 2) := by
 simp only [go_sem,seval,hK,hL,hN,hF,hn,hlg]
theorem bcheck_form (hK : Oq K) (hL : Oq L) (hN : Oq N) (hF : Oq F) (hn : Cq 33 [Nq N F] (.tup [I 0,I q])) (hlg : Cq 42 [Wq k n a K L] (B false)) (hns : Cq 43 [Nq N F,Wq k n a K L] (B false)) :
  Jq (.call 19 [Nq N F,Wq k n a K L] bx) = Rq (I 4) := by
 simp only [go_sem,seval,hK,hL,hN,hF,hn,hlg,hns]
theorem bcheck_nil (hK : Oq K) (hL : Oq L) (hN : Oq N) (hF : Oq F) (hn : Cq 33 [Nq N F] (.tup [I 0,I q])) (hlg : Cq 42 [Wq k n a K L] (B false)) (hns : Cq 43 [Nq N F,Wq k n a K L] (B true)) (hno : Cq 44 [Nq N F,Wq k n a K L] (.dat .nil)) (hcl : Cq 46 [.dat .nil] (.dat .nil)) :
  Jq (.call 19 [Nq N F,Wq k n a K L] bx) = Rq (I 0) := by
 have z0 : decide (((0 : Nat) : Int) < ((0 : Nat) : Int)) = false := by decide
 simp only [go_sem,seval,hK,hL,hN,hF,hn,hlg,hns,hno,hcl,z0]
theorem bcheck_same {zs : List Int} (hK : Oq K) (hL : Oq L) (hN : Oq N) (hF : Oq F) (hn : Cq 33 [Nq N F] (.tup [I 0,I q])) (hlg : Cq 42 [Wq k n a K L] (B false)) (hns : Cq 43 [Nq N F,Wq k n a K L] (B true)) (hno : Cq 44 [Nq N F,Wq k n a K L] (.own true 1 acc)) (hcl : Cq 46 [.dat (.sl 1 acc)] (.own true 1 acc)) (hz : intRows acc = some zs) (hzl : zs.length < 4611686018427387904) (hlt : decide (((rowsOf (Lib.compact zs)).length : Int) < (acc.length : Int)) = true) :
  Jq (.call 19 [Nq N F,Wq k n a K L] bx) = Rq (I 8) := by
 simp only [go_sem,seval,hK,hL,hN,hF,hn,hlg,hns,hno,hcl,hz,hzl,hlt]
theorem bcheck_ok {zs : List Int} (hK : Oq K) (hL : Oq L) (hN : Oq N) (hF : Oq F) (hn : Cq 33 [Nq N F] (.tup [I 0,I q])) (hlg : Cq 42 [Wq k n a K L] (B false)) (hns : Cq 43 [Nq N F,Wq k n a K L] (B true)) (hno : Cq 44 [Nq N F,Wq k n a K L] (.own true 1 acc)) (hcl : Cq 46 [.dat (.sl 1 acc)] (.own true 1 acc)) (hz : intRows acc = some zs) (hzl : zs.length < 4611686018427387904) (hlt : decide (((rowsOf (Lib.compact zs)).length : Int) < (acc.length : Int)) = false) :
  Jq (.call 19 [Nq N F,Wq k n a K L] bx) = Rq (I 0) := by
 simp only [go_sem,seval,hK,hL,hN,hF,hn,hlg,hns,hno,hcl,hz,hzl,hlt]
end
section
variable {bx : List Box} {c : Box} {fr r : List (List D)} {N F K : D} {i l : Nat} {k a op n : Int} {rs : List (List D)} {v : Bool}
theorem none_r (hK : IsS 3 r K) : Jq (.call 134 [Tq op n K] bx) = Rq (B (op == 0 && (n == 0 && (r.length : Int) == 0))) := by
 obtain ⟨w,h1,h2,h3⟩ := hK
 cases c1 : (op == 0) <;> cases c2 : (n == 0) <;> simp only [go_sem,seval,h1,h3,c1,c2]
theorem of_r {ty er kind : Int} (hK : Oq K) (hc : Cq 158 [Tq op n K] (.tup [I ty,I er])) :
  Jq (.call 133 [Tq op n K,I kind] bx) = Rq (B (er == 0 && ty == kind)) := by
 cases c1 : (er == 0) <;> simp only [go_sem,seval,hK,hc,c1]
theorem right_4n (hK : Oq K) (ho : Cq 133 [Tq op n K,I 1] (B false)) :
  Jq (.call 109 [.agg [I 4,I a,I op,I n,.dat K]] bx) = Rq (B false) := by
 simp only [go_sem,seval,hK,ho]
theorem right_4y (hK : Oq K) (ho : Cq 133 [Tq op n K,I 1] (B true)) (hz : Cq 134 [Tq 0 0 .nil] (B true)) :
  Jq (.call 109 [.agg [I 4,I a,I op,I n,.dat K]] bx) = Rq (B (decide (a >= 0) && decide (a <= 3))) := by
 cases c1 : decide (a >= 0) <;> cases c2 : decide (a <= 3) <;> simp only [go_sem,seval,hK,ho,hz,c1,c2]
theorem right_3 (hK : Oq K) (hn : Cq 134 [Tq op n K] (B v)) :
  Jq (.call 109 [.agg [I 3,I a,I op,I n,.dat K]] bx) = Rq (B (decide (a >= 0) && (decide (a <= 3) && v))) := by
 cases c1 : decide (a >= 0) <;> cases c2 : decide (a <= 3) <;> simp only [go_sem,seval,hK,hn,c1,c2]
theorem right_8 (hK : Oq K) (hn : Cq 134 [Tq op n K] (B v)) :
  Jq (.call 109 [.agg [I 8,I a,I op,I n,.dat K]] bx) = Rq (B (decide (a >= 0) && (decide (a <= 4) && v))) := by
 cases c1 : decide (a >= 0) <;> cases c2 : decide (a <= 4) <;> simp only [go_sem,seval,hK,hn,c1,c2]
theorem right_o (hK : Oq K) (h4 : (k == 4) = false) (h3' : (k == 3) = false) (h8 : (k == 8) = false) (hn : Cq 134 [Tq op n K] (B v)) :
  Jq (.call 109 [.agg [I k,I a,I op,I n,.dat K]] bx) = Rq (B (decide (k >= 1) && (decide (k <= 8) && (decide (a >= 0) && (decide (a <= 0) && v))))) := by
 cases c1 : decide (k >= 1) <;> cases c2 : decide (k <= 8) <;> cases c3 : decide (a >= 0) <;> cases c4 : decide (a <= 0) <;> simp only [go_sem,seval,hK,hn,h4,h3',h8,c1,c2,c3,c4]
theorem flows_round0 {g : FuncId} {f t : Int} {e : Bool} (hF : IsS 6 fr F) (hl : l < bx.length) (hc : c.all (cellLt (bx.length + 1)) = true) (hget : fr[i]? = some [dI f,dI t,.lit (.bool e),dI op,dI n,K]) (hlt : i < fr.length) (hmax : fr.length < 9223372036854775808) (hk : Oq K)
  (hcall : ∀ r : List Box,ev cfg (.call g [.agg [I f,I t,B e,I op,I n,.dat K],.ptr l 0] (bx ++ r)) = Rq (B v)) :
  Jq (.loop 123 3 (qs bx (sh123_3 (.clo g [l]) (.dat .nil) (.dat F) (I fr.length) (I i)) [c])) =
   ev cfg (.loop 123 3 (qs bx (sh123_3 (.clo g [l]) ((if v = true then .own true 1 [[dI i]] else .dat .nil)) (.dat F) (I fr.length) (I ((i + 1 : Nat) : Int))) [c])) := by
 obtain ⟨w,h1,h2,h3⟩ := hF
 obtain rfl := isS_w h2 hget
 cases v <;> simp only [go_sem,seval,h1,h3,hk,hl,nat_lt hlt,nat_neg,tnc,hget,hcall,hc,nat_succ hlt hmax]
theorem flows_round1 {g : FuncId} {f t : Int} {e : Bool} (hF : IsS 6 fr F) (hl : l < bx.length) (hc : c.all (cellLt (bx.length + 1)) = true) (hget : fr[i]? = some [dI f,dI t,.lit (.bool e),dI op,dI n,K]) (hlt : i < fr.length) (hmax : fr.length < 9223372036854775808) (hk : Oq K)
  (hks : (rs.length + 1) * 8 <= 140737488355328) (hcall : ∀ r : List Box,ev cfg (.call g [.agg [I f,I t,B e,I op,I n,.dat K],.ptr l 0] (bx ++ r)) = Rq (B v)) :
  Jq (.loop 123 3 (qs bx (sh123_3 (.clo g [l]) (.own true 1 rs) (.dat F) (I fr.length) (I i)) [c])) =
   ev cfg (.loop 123 3 (qs bx (sh123_3 (.clo g [l]) ((.own true 1 (if v = true then rs ++ [[dI i]] else rs))) (.dat F) (I fr.length) (I ((i + 1 : Nat) : Int))) [c])) := by
 obtain ⟨w,h1,h2,h3⟩ := hF
 obtain rfl := isS_w h2 hget
 cases v <;> simp only [go_sem,seval,h1,h3,hk,hl,nat_lt hlt,nat_neg,tnc,hget,hcall,hc,hks,nat_succ hlt hmax]
theorem flows_end {g : FuncId} {X : PV} {m : Nat} (hX : X = mkS 1 rs) (hl : l < bx.length) (hc : c.all (cellLt (bx.length + 1)) = true) (hge : m <= i) :
  Jq (.loop 123 3 (qs bx (sh123_3 (.clo g [l]) X (.dat F) (I m) (I i)) [c])) = some (.loop (.exit 0) (qs bx (se123_3 X) [c])) := by
 subst hX
 cases rs <;> simp only [go_sem,seval,mkS,nat_ge hge,hc,hl]
theorem flows_f {g : FuncId} (hN : Oq N) (hF : IsS 6 fr F) (hl : l < bx.length)
  (hloop : ∀ c : Box,c.all (cellLt (bx.length + 1)) = true -> ev cfg (.loop 123 3 (qs bx (sh123_3 (.clo g [l]) (.dat .nil) (.dat F) (I fr.length) (I 0)) [c])) = some (.loop (.exit 0) (qs bx (se123_3 (mkS 1 rs)) [c]))) :
  Jq (.call 123 [Nq N F,.clo g [l]] bx) = Rq (.dat (mkD 1 rs)) := by
 obtain ⟨w,h1,h2,h3⟩ := hF
 have hloop' := hloop (Nb N F) (by simp [cellLt])
 cases rs <;> simp only [mkS] at hloop' <;> simp only [go_sem,seval,mkD,h1,h3,hN,hl,hloop']
theorem outs1_f {f t q : Int} {e : Bool} (hK : Oq K) (hl : l < bx.length) (hb : bx[l]? = some [I q]) : Jq (.call 124 [.agg [I f,I t,B e,I op,I n,.dat K],.ptr l 0] bx) = Rq (B (f == q)) := by
 simp only [go_sem,seval,hK,hl,hb]
theorem ins1_f {f t q : Int} {e : Bool} (hK : Oq K) (hl : l < bx.length) (hb : bx[l]? = some [I q]) : Jq (.call 127 [.agg [I f,I t,B e,I op,I n,.dat K],.ptr l 0] bx) = Rq (B (t == q)) := by
 simp only [go_sem,seval,hK,hl,hb]
theorem outs_f {q : Int} {X : D} (hN : Oq N) (hF : Oq F) (hX : Oq X) (hc : ∀ c : Box,ev cfg (.call 123 [Nq N F,.clo 124 [bx.length + 1]] (bx ++ [c,[I q]])) = Rq (.dat X)) :
  Jq (.call 78 [Nq N F,I q] bx) = Rq (.dat X) := by
 cases X <;> simp only [go_sem,seval,hN,hF,hc]
theorem ins_f {q : Int} {X : D} (hN : Oq N) (hF : Oq F) (hX : Oq X) (hc : ∀ c : Box,ev cfg (.call 123 [Nq N F,.clo 127 [bx.length + 1]] (bx ++ [c,[I q]])) = Rq (.dat X)) :
  Jq (.call 82 [Nq N F,I q] bx) = Rq (.dat X) := by
 cases X <;> simp only [go_sem,seval,hN,hF,hc]
end
end Go.Proofs.YtifckjhggamefaaGreatDoor
