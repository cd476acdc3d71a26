/- Rounds of the folder's closed: what is passed over, the end, the call. No condition. -/
import Derived.Test.YtifckjhggamefaaGreatDoorQb
set_option linter.unusedSimpArgs false
set_option linter.unusedVariables false
set_option linter.unusedSectionVars false
namespace Go.Proofs.YtifckjhggamefaaGreatDoor
open Go Go.Vx
set_option maxHeartbeats 4000000
set_option maxRecDepth 10000
section
variable {bx : List Box} {rows lr ws : List (List D)} {N F : D} {i l : Nat} {jj : Int} {c : Bool}
theorem fclosed_none (hl : l < bx.length) (hb : bx[l]? = some [.dat N,.dat F,.own true 5 rows,.own true 3 lr]) (hlt : i < rows.length) (hmax : rows.length < 9223372036854775808) (h6 : ev cfg (.call 94 [.ptr l 0,I i,I 6,B true] bx) = Rq (B false)) (h5 : ev cfg (.call 94 [.ptr l 0,I i,I 5,B true] bx) = Rq (B false)) (h7 : ev cfg (.call 94 [.ptr l 0,I i,I 7,B true] bx) = Rq (B false)) :
  Jq (.loop 63 2 (q0 bx (sh63_2 (.ptr l 0) (I rows.length) (I i)))) = ev cfg (.loop 63 2 (q0 bx (sh63_2 (.ptr l 0) (I rows.length) (I ((i + 1 : Nat) : Int))))) := by
 simp only [go_sem,seval,hl,hb,nat_lt hlt,nat_neg,tnc,nat_succ hlt hmax,h6,h5,h7]
theorem fclosed_par_no0 (hl : l < bx.length) (hb : bx[l]? = some [.dat N,.dat F,.own true 5 rows,.own true 3 lr]) (hlt : i < rows.length) (hmax : rows.length < 9223372036854775808) (h6 : ev cfg (.call 94 [.ptr l 0,I i,I 6,B true] bx) = Rq (B true)) (hc : ev cfg (.call 95 [.ptr l 0,I i,I 6] bx) = Rq (.tup [I jj,.dat .nil,B false])) :
  Jq (.loop 63 2 (q0 bx (sh63_2 (.ptr l 0) (I rows.length) (I i)))) = ev cfg (.loop 63 2 (q0 bx (sh63_2 (.ptr l 0) (I rows.length) (I ((i + 1 : Nat) : Int))))) := by
 simp only [go_sem,seval,hl,hb,nat_lt hlt,nat_neg,tnc,nat_succ hlt hmax,h6,hc]
theorem fclosed_par_no1 (hl : l < bx.length) (hb : bx[l]? = some [.dat N,.dat F,.own true 5 rows,.own true 3 lr]) (hlt : i < rows.length) (hmax : rows.length < 9223372036854775808) (h6 : ev cfg (.call 94 [.ptr l 0,I i,I 6,B true] bx) = Rq (B true)) (hc : ev cfg (.call 95 [.ptr l 0,I i,I 6] bx) = Rq (.tup [I jj,.own true 3 ws,B false])) :
  Jq (.loop 63 2 (q0 bx (sh63_2 (.ptr l 0) (I rows.length) (I i)))) = ev cfg (.loop 63 2 (q0 bx (sh63_2 (.ptr l 0) (I rows.length) (I ((i + 1 : Nat) : Int))))) := by
 simp only [go_sem,seval,hl,hb,nat_lt hlt,nat_neg,tnc,nat_succ hlt hmax,h6,hc]
theorem fclosed_alt_no0 (hl : l < bx.length) (hb : bx[l]? = some [.dat N,.dat F,.own true 5 rows,.own true 3 lr]) (hlt : i < rows.length) (hmax : rows.length < 9223372036854775808) (h6 : ev cfg (.call 94 [.ptr l 0,I i,I 6,B true] bx) = Rq (B false)) (h5 : ev cfg (.call 94 [.ptr l 0,I i,I 5,B true] bx) = Rq (B true)) (hc : ev cfg (.call 95 [.ptr l 0,I i,I 5] bx) = Rq (.tup [I jj,.dat .nil,B false])) :
  Jq (.loop 63 2 (q0 bx (sh63_2 (.ptr l 0) (I rows.length) (I i)))) = ev cfg (.loop 63 2 (q0 bx (sh63_2 (.ptr l 0) (I rows.length) (I ((i + 1 : Nat) : Int))))) := by
 simp only [go_sem,seval,hl,hb,nat_lt hlt,nat_neg,tnc,nat_succ hlt hmax,h6,h5,hc]
theorem fclosed_alt_no1 (hl : l < bx.length) (hb : bx[l]? = some [.dat N,.dat F,.own true 5 rows,.own true 3 lr]) (hlt : i < rows.length) (hmax : rows.length < 9223372036854775808) (h6 : ev cfg (.call 94 [.ptr l 0,I i,I 6,B true] bx) = Rq (B false)) (h5 : ev cfg (.call 94 [.ptr l 0,I i,I 5,B true] bx) = Rq (B true)) (hc : ev cfg (.call 95 [.ptr l 0,I i,I 5] bx) = Rq (.tup [I jj,.own true 3 ws,B false])) :
  Jq (.loop 63 2 (q0 bx (sh63_2 (.ptr l 0) (I rows.length) (I i)))) = ev cfg (.loop 63 2 (q0 bx (sh63_2 (.ptr l 0) (I rows.length) (I ((i + 1 : Nat) : Int))))) := by
 simp only [go_sem,seval,hl,hb,nat_lt hlt,nat_neg,tnc,nat_succ hlt hmax,h6,h5,hc]
theorem fclosed_pick_no0 (hl : l < bx.length) (hb : bx[l]? = some [.dat N,.dat F,.own true 5 rows,.own true 3 lr]) (hlt : i < rows.length) (hmax : rows.length < 9223372036854775808) (h6 : ev cfg (.call 94 [.ptr l 0,I i,I 6,B true] bx) = Rq (B false)) (h5 : ev cfg (.call 94 [.ptr l 0,I i,I 5,B true] bx) = Rq (B false)) (h7 : ev cfg (.call 94 [.ptr l 0,I i,I 7,B true] bx) = Rq (B true)) (hc : ev cfg (.call 95 [.ptr l 0,I i,I 5] bx) = Rq (.tup [I jj,.dat .nil,B false])) :
  Jq (.loop 63 2 (q0 bx (sh63_2 (.ptr l 0) (I rows.length) (I i)))) = ev cfg (.loop 63 2 (q0 bx (sh63_2 (.ptr l 0) (I rows.length) (I ((i + 1 : Nat) : Int))))) := by
 simp only [go_sem,seval,hl,hb,nat_lt hlt,nat_neg,tnc,nat_succ hlt hmax,h6,h5,h7,hc]
theorem fclosed_pick_no1 (hl : l < bx.length) (hb : bx[l]? = some [.dat N,.dat F,.own true 5 rows,.own true 3 lr]) (hlt : i < rows.length) (hmax : rows.length < 9223372036854775808) (h6 : ev cfg (.call 94 [.ptr l 0,I i,I 6,B true] bx) = Rq (B false)) (h5 : ev cfg (.call 94 [.ptr l 0,I i,I 5,B true] bx) = Rq (B false)) (h7 : ev cfg (.call 94 [.ptr l 0,I i,I 7,B true] bx) = Rq (B true)) (hc : ev cfg (.call 95 [.ptr l 0,I i,I 5] bx) = Rq (.tup [I jj,.own true 3 ws,B false])) :
  Jq (.loop 63 2 (q0 bx (sh63_2 (.ptr l 0) (I rows.length) (I i)))) = ev cfg (.loop 63 2 (q0 bx (sh63_2 (.ptr l 0) (I rows.length) (I ((i + 1 : Nat) : Int))))) := by
 simp only [go_sem,seval,hl,hb,nat_lt hlt,nat_neg,tnc,nat_succ hlt hmax,h6,h5,h7,hc]
theorem fclosed_pick_aw (hl : l < bx.length) (hb : bx[l]? = some [.dat N,.dat F,.own true 5 rows,.own true 3 lr]) (hlt : i < rows.length) (hmax : rows.length < 9223372036854775808) (h6 : ev cfg (.call 94 [.ptr l 0,I i,I 6,B true] bx) = Rq (B false)) (h5 : ev cfg (.call 94 [.ptr l 0,I i,I 5,B true] bx) = Rq (B false)) (h7 : ev cfg (.call 94 [.ptr l 0,I i,I 7,B true] bx) = Rq (B true)) (hc : ev cfg (.call 95 [.ptr l 0,I i,I 5] bx) = Rq (.tup [I jj,.own true 3 ws,B true])) (ha : ev cfg (.call 96 [.ptr l 0,I i,.dat (.sl 3 ws)] bx) = Rq (B false)) :
  Jq (.loop 63 2 (q0 bx (sh63_2 (.ptr l 0) (I rows.length) (I i)))) = ev cfg (.loop 63 2 (q0 bx (sh63_2 (.ptr l 0) (I rows.length) (I ((i + 1 : Nat) : Int))))) := by
 simp only [go_sem,seval,hl,hb,nat_lt hlt,nat_neg,tnc,nat_succ hlt hmax,h6,h5,h7,hc,ha]
theorem fclosed_end {m : Nat} (hl : l < bx.length) (hge : m <= i) :
  Jq (.loop 63 2 (q0 bx (sh63_2 (.ptr l 0) (I m) (I i)))) = some (.loop (.exit 0) (q0 bx (se63_2 .dead))) := by
 simp only [go_sem,seval,hl,nat_ge hge]
theorem fclosed_f (hl : l < bx.length) (hb : bx[l]? = some [.dat N,.dat F,.own true 5 rows,.own true 3 lr])
  (hloop : ev cfg (.loop 63 2 (q0 bx (sh63_2 (.ptr l 0) (I rows.length) (I 0)))) = some (.loop (.exit 0) (q0 bx (se63_2 .dead)))) :
  Jq (.call 63 [.ptr l 0] bx) = Rq (B false) := by
 simp only [go_sem,seval,hl,hb,hloop]
theorem fclosed_t (hl : l < bx.length) (hb : bx[l]? = some [.dat N,.dat F,.own true 5 rows,.own true 3 lr]) {c : Box}
  (hloop : ev cfg (.loop 63 2 (q0 bx (sh63_2 (.ptr l 0) (I rows.length) (I 0)))) = some (.loop .ret ⟨(se63_2 (B true)),bx.set l c,bx.length,some l,false⟩)) :
  Jq (.call 63 [.ptr l 0] bx) = some (.ret (B true) (some ⟨bx.set l c,l,false⟩)) := by
 simp only [go_sem,seval,hl,hb,hloop]
end
section
variable {bx : List Box} {rows lr os ws cs gs ks ks2 ls2 os2 : List (List D)} {w0 : List D} {N F K L : D} {i l o2 : Nat} {k n a f2 t2 w2 jj : Int}
theorem fclosed_par (hl : l < bx.length) (hb : bx[l]? = some [.dat N,.dat F,.own true 5 rows,.own true 3 lr]) (hlt : i < rows.length) (hmax : rows.length < 9223372036854775808) (h6 : ev cfg (.call 94 [.ptr l 0,I i,I 6,B true] bx) = Rq (B true)) (hc : ev cfg (.call 95 [.ptr l 0,I i,I 6] bx) = Rq (.tup [I jj,.own true 3 ws,B true])) (hra : rows[i]? = some [dI k,dI n,dI a,K,L])
  (ho : ∀ r : Box,ev cfg (.call 84 [.ptr l 0,I i] (bx ++ [r])) = Rq (.own true 1 os))
  (hin : ev cfg (.loop 63 15 (qs bx (sh63_15 (.ptr l 0) (I i) (I 4) (I jj) (P0 bx) (.own true 1 [[dI jj]]) (.own true 1 os) (.own true 3 ws) (I ws.length) (I 0)) [Wx 4 n 0 .nil .nil])) = some (.loop (.exit 3) (qs bx (se63_15 (.ptr l 0) (I i) (I jj) (P0 bx) (.own true 1 gs) (.own true 1 cs)) [[I 4,I n,I 0,.own true 5 (w0 :: ks),.dat .nil]])))
  (ho2 : ∀ r : Box,ev cfg (.call 84 [.ptr l 0,I jj] (bx.set l [.dat N,.dat F,.own true 5 (rows.set i [dI 4,dI n,dI 0,.sl 5 (w0 :: ks),.nil]),.own true 3 lr] ++ [r])) = Rq (.own true 1 ([dI o2] :: os2))) (hget2 : lr[o2]? = some [dI f2,dI t2,dI w2])
  (hdr : ∀ r : Box,ev cfg (.call 93 [.ptr l 0,.dat (.sl 1 gs),.dat (.sl 1 cs)] (bx.set l [.dat N,.dat F,.own true 5 (rows.set i [dI 4,dI n,dI 0,.sl 5 (w0 :: ks),.nil]),.own true 3 (lr.set o2 [dI (i : Nat),dI t2,dI w2])] ++ [r])) = some (.ret (.tup []) (some ⟨bx.set l [.dat N,.dat F,mkS 5 ks2,mkS 3 ls2] ++ [r],l,false⟩))) :
  Jq (.loop 63 2 (q0 bx (sh63_2 (.ptr l 0) (I rows.length) (I i)))) = some (.loop .ret ⟨(se63_2 (B true)),bx.set l [.dat N,.dat F,mkS 5 ks2,mkS 3 ls2],bx.length,some l,false⟩) := by
 have hlo2 : o2 < lr.length := (gsi.1 hget2).1
 have hz2 : 0 < os2.length + 1 := by omega
 simp (maxSteps := 2000000) only [go_sem,seval,hl,hb,nat_lt hlt,nat_neg,tnc,nat_succ hlt hmax,h6,hc,hra,hlt,ho,hin,ho2,hz2,hget2,hlo2,hdr,isCellIn,gss hl,lls]
end
section
variable {bx : List Box} {rows lr os ws cs gs ks ks2 ls2 os2 : List (List D)} {w0 : List D} {N F K L : D} {i l o2 : Nat} {k n a f2 t2 w2 jj : Int}
theorem fclosed_alt (hl : l < bx.length) (hb : bx[l]? = some [.dat N,.dat F,.own true 5 rows,.own true 3 lr]) (hlt : i < rows.length) (hmax : rows.length < 9223372036854775808) (h6 : ev cfg (.call 94 [.ptr l 0,I i,I 6,B true] bx) = Rq (B false)) (h5 : ev cfg (.call 94 [.ptr l 0,I i,I 5,B true] bx) = Rq (B true)) (hc : ev cfg (.call 95 [.ptr l 0,I i,I 5] bx) = Rq (.tup [I jj,.own true 3 ws,B true])) (hra : rows[i]? = some [dI k,dI n,dI a,K,L])
  (ho : ∀ r : Box,ev cfg (.call 84 [.ptr l 0,I i] (bx ++ [r])) = Rq (.own true 1 os))
  (hin : ev cfg (.loop 63 15 (qs bx (sh63_15 (.ptr l 0) (I i) (I 5) (I jj) (P0 bx) (.own true 1 [[dI jj]]) (.own true 1 os) (.own true 3 ws) (I ws.length) (I 0)) [Wx 5 n 0 .nil .nil])) = some (.loop (.exit 3) (qs bx (se63_15 (.ptr l 0) (I i) (I jj) (P0 bx) (.own true 1 gs) (.own true 1 cs)) [[I 5,I n,I 0,.own true 5 (w0 :: ks),.dat .nil]])))
  (ho2 : ∀ r : Box,ev cfg (.call 84 [.ptr l 0,I jj] (bx.set l [.dat N,.dat F,.own true 5 (rows.set i [dI 5,dI n,dI 0,.sl 5 (w0 :: ks),.nil]),.own true 3 lr] ++ [r])) = Rq (.own true 1 ([dI o2] :: os2))) (hget2 : lr[o2]? = some [dI f2,dI t2,dI w2])
  (hdr : ∀ r : Box,ev cfg (.call 93 [.ptr l 0,.dat (.sl 1 gs),.dat (.sl 1 cs)] (bx.set l [.dat N,.dat F,.own true 5 (rows.set i [dI 5,dI n,dI 0,.sl 5 (w0 :: ks),.nil]),.own true 3 (lr.set o2 [dI (i : Nat),dI t2,dI w2])] ++ [r])) = some (.ret (.tup []) (some ⟨bx.set l [.dat N,.dat F,mkS 5 ks2,mkS 3 ls2] ++ [r],l,false⟩))) :
  Jq (.loop 63 2 (q0 bx (sh63_2 (.ptr l 0) (I rows.length) (I i)))) = some (.loop .ret ⟨(se63_2 (B true)),bx.set l [.dat N,.dat F,mkS 5 ks2,mkS 3 ls2],bx.length,some l,false⟩) := by
 have hlo2 : o2 < lr.length := (gsi.1 hget2).1
 have hz2 : 0 < os2.length + 1 := by omega
 simp (maxSteps := 2000000) only [go_sem,seval,hl,hb,nat_lt hlt,nat_neg,tnc,nat_succ hlt hmax,h6,h5,hc,hra,hlt,ho,hin,ho2,hz2,hget2,hlo2,hdr,isCellIn,gss hl,lls]
end
section
variable {bx : List Box} {rows lr os ws cs gs ks ks2 ls2 os2 : List (List D)} {w0 : List D} {N F K L : D} {i l o2 : Nat} {k n a f2 t2 w2 jj : Int}
theorem fclosed_pick (hl : l < bx.length) (hb : bx[l]? = some [.dat N,.dat F,.own true 5 rows,.own true 3 lr]) (hlt : i < rows.length) (hmax : rows.length < 9223372036854775808) (h6 : ev cfg (.call 94 [.ptr l 0,I i,I 6,B true] bx) = Rq (B false)) (h5 : ev cfg (.call 94 [.ptr l 0,I i,I 5,B true] bx) = Rq (B false)) (h7 : ev cfg (.call 94 [.ptr l 0,I i,I 7,B true] bx) = Rq (B true)) (hc : ev cfg (.call 95 [.ptr l 0,I i,I 5] bx) = Rq (.tup [I jj,.own true 3 ws,B true])) (ha : ev cfg (.call 96 [.ptr l 0,I i,.dat (.sl 3 ws)] bx) = Rq (B true)) (hra : rows[i]? = some [dI k,dI n,dI a,K,L])
  (ho : ∀ r : Box,ev cfg (.call 84 [.ptr l 0,I i] (bx ++ [r])) = Rq (.own true 1 os))
  (hin : ev cfg (.loop 63 15 (qs bx (sh63_15 (.ptr l 0) (I i) (I 6) (I jj) (P0 bx) (.own true 1 [[dI jj]]) (.own true 1 os) (.own false 3 ws) (I ws.length) (I 0)) [Wx 6 n 0 .nil .nil])) = some (.loop (.exit 3) (qs bx (se63_15 (.ptr l 0) (I i) (I jj) (P0 bx) (.own true 1 gs) (.own true 1 cs)) [[I 6,I n,I 0,.own true 5 (w0 :: ks),.dat .nil]])))
  (ho2 : ∀ r : Box,ev cfg (.call 84 [.ptr l 0,I jj] (bx.set l [.dat N,.dat F,.own true 5 (rows.set i [dI 6,dI n,dI 0,.sl 5 (w0 :: ks),.nil]),.own true 3 lr] ++ [r])) = Rq (.own true 1 ([dI o2] :: os2))) (hget2 : lr[o2]? = some [dI f2,dI t2,dI w2])
  (hdr : ∀ r : Box,ev cfg (.call 93 [.ptr l 0,.dat (.sl 1 gs),.dat (.sl 1 cs)] (bx.set l [.dat N,.dat F,.own true 5 (rows.set i [dI 6,dI n,dI 0,.sl 5 (w0 :: ks),.nil]),.own true 3 (lr.set o2 [dI (i : Nat),dI t2,dI w2])] ++ [r])) = some (.ret (.tup []) (some ⟨bx.set l [.dat N,.dat F,mkS 5 ks2,mkS 3 ls2] ++ [r],l,false⟩))) :
  Jq (.loop 63 2 (q0 bx (sh63_2 (.ptr l 0) (I rows.length) (I i)))) = some (.loop .ret ⟨(se63_2 (B true)),bx.set l [.dat N,.dat F,mkS 5 ks2,mkS 3 ls2],bx.length,some l,false⟩) := by
 have hlo2 : o2 < lr.length := (gsi.1 hget2).1
 have hz2 : 0 < os2.length + 1 := by omega
 simp (maxSteps := 2000000) only [go_sem,seval,hl,hb,nat_lt hlt,nat_neg,tnc,nat_succ hlt hmax,h6,h5,h7,hc,ha,hra,hlt,ho,hin,ho2,hz2,hget2,hlo2,hdr,isCellIn,gss hl,lls]
end
section
variable {bx : List Box} {os ws ir : List (List D)} {X Y Z : PV} {i l : Nat} {k s jn to b_ la to0 by0 la0 m : Int}
theorem fclosing_0 (hl : l < bx.length) (hget : os[i]? = some [dI k]) (hlt : i < os.length) (hmax : os.length < 9223372036854775808) (hf : ev cfg (.call 98 [.ptr l 0,I k] bx) = Rq (Aq to b_ la)) :
  Jq (.loop 95 3 (q0 bx (sh95_3 (.ptr l 0) (I s) (I jn) (.dat .nil) (.own true 1 os) (I os.length) (I i)))) = ev cfg (.loop 95 3 (q0 bx (sh95_3 (.ptr l 0) (I s) (I jn) (.own true 3 [[dI to,dI b_,dI la]]) (.own true 1 os) (I os.length) (I ((i + 1 : Nat) : Int))))) := by
 have e0 : decide (((0 : Nat) : Int) > 0) = false := rfl
 simp only [go_sem,seval,hl,nat_lt hlt,nat_neg,tnc,hget,hlt,hf,e0,nat_succ hlt hmax]
theorem fclosing_y (hl : l < bx.length) (hget : os[i]? = some [dI k]) (hlt : i < os.length) (hmax : os.length < 9223372036854775808) (hf : ev cfg (.call 98 [.ptr l 0,I k] bx) = Rq (Aq to b_ la)) (hn : (to0 != to) = false) (hks : (ws.length + (1 + 1)) * 24 <= 140737488355328) :
  Jq (.loop 95 3 (q0 bx (sh95_3 (.ptr l 0) (I s) (I jn) (.own true 3 ([dI to0,dI by0,dI la0] :: ws)) (.own true 1 os) (I os.length) (I i)))) = ev cfg (.loop 95 3 (q0 bx (sh95_3 (.ptr l 0) (I s) (I jn) (.own true 3 ([dI to0,dI by0,dI la0] :: (ws ++ [[dI to,dI b_,dI la]]))) (.own true 1 os) (I os.length) (I ((i + 1 : Nat) : Int))))) := by
 have hz : decide (((ws.length + 1 : Nat) : Int) > 0) = true := dqt (by omega)
 have hz2 : 0 < ws.length + 1 := by omega
 simp only [go_sem,seval,hl,nat_lt hlt,nat_neg,tnc,hget,hlt,hf,nat_succ hlt hmax,hz,hz2,hn,hks]
theorem fclosing_n (hl : l < bx.length) (hget : os[i]? = some [dI k]) (hlt : i < os.length) (hmax : os.length < 9223372036854775808) (hf : ev cfg (.call 98 [.ptr l 0,I k] bx) = Rq (Aq to b_ la)) (hn : (to0 != to) = true) :
  ∃ X Y Z U : PV,Jq (.loop 95 3 (q0 bx (sh95_3 (.ptr l 0) (I s) (I jn) (.own true 3 ([dI to0,dI by0,dI la0] :: ws)) (.own true 1 os) (I os.length) (I i)))) = some (.loop .ret (q0 bx (se95_3 X Y Z (I 0) (.dat .nil) (B false) U))) := by
 have hz : decide (((ws.length + 1 : Nat) : Int) > 0) = true := dqt (by omega)
 have hz2 : 0 < ws.length + 1 := by omega
 refine ⟨.ptr l 0,I s,I jn,.own true 3 ([dI to0,dI by0,dI la0] :: ws),?_⟩
 simp only [go_sem,seval,hl,nat_lt hlt,nat_neg,tnc,hget,hlt,hf,nat_succ hlt hmax,hz,hz2,hn]
theorem fclosing_end (hl : l < bx.length) {m : Nat} (hge : m <= i) :
  Jq (.loop 95 3 (q0 bx (sh95_3 (.ptr l 0) (I s) (I jn) (mkS 3 ws) (.own true 1 os) (I m) (I i)))) = some (.loop (.exit 0) (q0 bx (se95_3 (.ptr l 0) (I s) (I jn) .dead .dead .dead (mkS 3 ws)))) := by
 cases ws <;> simp only [go_sem,seval,mkS,hl,nat_ge hge]
theorem fclosing_no (hl : l < bx.length) (ho : ev cfg (.call 84 [.ptr l 0,I s] bx) = Rq (.own true 1 os)) {X Y Z U : PV}
  (hloop : ev cfg (.loop 95 3 (q0 bx (sh95_3 (.ptr l 0) (I s) (I jn) (.dat .nil) (.own true 1 os) (I os.length) (I 0)))) = some (.loop .ret (q0 bx (se95_3 X Y Z (I 0) (.dat .nil) (B false) U)))) :
  Jq (.call 95 [.ptr l 0,I s,I jn] bx) = Rq (.tup [I 0,.dat .nil,B false]) := by
 simp only [go_sem,seval,hl,ho,hloop]
theorem fclosing_neg (hl : l < bx.length) (ho : ev cfg (.call 84 [.ptr l 0,I s] bx) = Rq (.own true 1 os)) (hloop : ev cfg (.loop 95 3 (q0 bx (sh95_3 (.ptr l 0) (I s) (I jn) (.dat .nil) (.own true 1 os) (I os.length) (I 0)))) = some (.loop (.exit 0) (q0 bx (se95_3 (.ptr l 0) (I s) (I jn) .dead .dead .dead (.own true 3 ([dI to0,dI by0,dI la0] :: ws)))))) (h1 : decide (to0 >= 0) = false) :
  Jq (.call 95 [.ptr l 0,I s,I jn] bx) = Rq (.tup [I to0,.own true 3 ([dI to0,dI by0,dI la0] :: ws),B false]) := by
 have hz2 : 0 < ws.length + 1 := by omega
 simp only [go_sem,seval,hl,ho,hloop,hz2,h1]
theorem fclosing_self (hl : l < bx.length) (ho : ev cfg (.call 84 [.ptr l 0,I s] bx) = Rq (.own true 1 os)) (hloop : ev cfg (.loop 95 3 (q0 bx (sh95_3 (.ptr l 0) (I s) (I jn) (.dat .nil) (.own true 1 os) (I os.length) (I 0)))) = some (.loop (.exit 0) (q0 bx (se95_3 (.ptr l 0) (I s) (I jn) .dead .dead .dead (.own true 3 ([dI to0,dI by0,dI la0] :: ws)))))) (h1 : decide (to0 >= 0) = true) (h2 : (to0 != s) = false) :
  Jq (.call 95 [.ptr l 0,I s,I jn] bx) = Rq (.tup [I to0,.own true 3 ([dI to0,dI by0,dI la0] :: ws),B false]) := by
 have hz2 : 0 < ws.length + 1 := by omega
 simp only [go_sem,seval,hl,ho,hloop,hz2,h1,h2]
theorem fclosing_is (hl : l < bx.length) (ho : ev cfg (.call 84 [.ptr l 0,I s] bx) = Rq (.own true 1 os)) (hloop : ev cfg (.loop 95 3 (q0 bx (sh95_3 (.ptr l 0) (I s) (I jn) (.dat .nil) (.own true 1 os) (I os.length) (I 0)))) = some (.loop (.exit 0) (q0 bx (se95_3 (.ptr l 0) (I s) (I jn) .dead .dead .dead (.own true 3 ([dI to0,dI by0,dI la0] :: ws)))))) (h1 : decide (to0 >= 0) = true) (h2 : (to0 != s) = true) (his : ev cfg (.call 94 [.ptr l 0,I to0,I jn,B false] bx) = Rq (B false)) :
  Jq (.call 95 [.ptr l 0,I s,I jn] bx) = Rq (.tup [I to0,.own true 3 ([dI to0,dI by0,dI la0] :: ws),B false]) := by
 have hz2 : 0 < ws.length + 1 := by omega
 simp only [go_sem,seval,hl,ho,hloop,hz2,h1,h2,his]
theorem fclosing_ins (hl : l < bx.length) (ho : ev cfg (.call 84 [.ptr l 0,I s] bx) = Rq (.own true 1 os)) (hloop : ev cfg (.loop 95 3 (q0 bx (sh95_3 (.ptr l 0) (I s) (I jn) (.dat .nil) (.own true 1 os) (I os.length) (I 0)))) = some (.loop (.exit 0) (q0 bx (se95_3 (.ptr l 0) (I s) (I jn) .dead .dead .dead (.own true 3 ([dI to0,dI by0,dI la0] :: ws)))))) (h1 : decide (to0 >= 0) = true) (h2 : (to0 != s) = true) (his : ev cfg (.call 94 [.ptr l 0,I to0,I jn,B false] bx) = Rq (B true)) (hi : ev cfg (.call 83 [.ptr l 0,I to0] bx) = Rq (.own true 1 ir)) :
  Jq (.call 95 [.ptr l 0,I s,I jn] bx) = Rq (.tup [I to0,.own true 3 ([dI to0,dI by0,dI la0] :: ws),B ((ir.length : Int) == ((ws.length + 1 : Nat) : Int))]) := by
 have hz2 : 0 < ws.length + 1 := by omega
 simp only [go_sem,seval,hl,ho,hloop,hz2,h1,h2,his,hi]
end
section
variable {bx : List Box} {fr rows lr os ws ps : List (List D)} {N F K L K2 PD R : D} {i l o p : Nat} {k n a f t s to b_ la pk pn pa ffr fto op m : Int} {els : Bool}
theorem fawait_nil (hl : l < bx.length) (hb : bx[l]? = some [.dat N,.dat F,.own true 5 rows,.own true 3 lr]) (hF : IsS 6 fr F) (hget : os[i]? = some [dI o]) (hlt : i < os.length) (hmax : os.length < 9223372036854775808) (hw : ws[i]? = some [dI to,dI b_,dI la]) (hp : ev cfg (.call 97 [.ptr l 0,Aq to b_ la] bx) = Rq (Wq k n a K L)) (hq : ev cfg (.call 92 [Wq k n a K L] bx) = Rq (.dat .nil)) :
  Jq (.loop 96 2 (q0 bx (sh96_2 (.ptr l 0) (.dat (.sl 3 ws)) (.own true 1 os) (I os.length) (I i)))) = some (.loop .ret (q0 bx (se96_2 (B false)))) := by
 have hlw : i < ws.length := (gsi.1 hw).1
 simp only [go_sem,seval,hl,hb,nat_lt hlt,nat_neg,tnc,hget,hlt,hw,hlw,hp,hq,show (((0 : Nat) : Int) == 0) = true from rfl]
theorem fawait_k (hl : l < bx.length) (hb : bx[l]? = some [.dat N,.dat F,.own true 5 rows,.own true 3 lr]) (hF : IsS 6 fr F) (hget : os[i]? = some [dI o]) (hlt : i < os.length) (hmax : os.length < 9223372036854775808) (hw : ws[i]? = some [dI to,dI b_,dI la]) (hp : ev cfg (.call 97 [.ptr l 0,Aq to b_ la] bx) = Rq (Wq k n a K L)) (hq : ev cfg (.call 92 [Wq k n a K L] bx) = Rq (.dat (.sl 5 ([dI pk,dI pn,dI pa,K2,R] :: ps)))) (hk : (pk != 2) = true) :
  Jq (.loop 96 2 (q0 bx (sh96_2 (.ptr l 0) (.dat (.sl 3 ws)) (.own true 1 os) (I os.length) (I i)))) = some (.loop .ret (q0 bx (se96_2 (B false)))) := by
 have hlw : i < ws.length := (gsi.1 hw).1
 have hz : (((ps.length + 1 : Nat) : Int) == 0) = false := beq_eq_false_iff_ne.2 (by omega)
 have hz2 : 0 < ps.length + 1 := by omega
 simp only [go_sem,seval,hl,hb,nat_lt hlt,nat_neg,tnc,hget,hlt,hw,hlw,hp,hq,hz,hz2,hk]
theorem fawait_n (hl : l < bx.length) (hb : bx[l]? = some [.dat N,.dat F,.own true 5 rows,.own true 3 lr]) (hF : IsS 6 fr F) (hget : os[i]? = some [dI o]) (hlt : i < os.length) (hmax : os.length < 9223372036854775808) (hw : ws[i]? = some [dI to,dI b_,dI la]) (hp : ev cfg (.call 97 [.ptr l 0,Aq to b_ la] bx) = Rq (Wq k n a K L)) (hq : ev cfg (.call 92 [Wq k n a K L] bx) = Rq (.dat (.sl 5 ([dI pk,dI pn,dI pa,K2,R] :: ps)))) (hk : (pk != 2) = false) (hlk : lr[o]? = some [dI f,dI t,dI (p : Nat)]) (hfl : fr[p]? = some [dI ffr,dI fto,.lit (.bool els),dI op,dI m,PD]) (hn : (pn != fto) = true) :
  Jq (.loop 96 2 (q0 bx (sh96_2 (.ptr l 0) (.dat (.sl 3 ws)) (.own true 1 os) (I os.length) (I i)))) = some (.loop .ret (q0 bx (se96_2 (B false)))) := by
 have hlw : i < ws.length := (gsi.1 hw).1
 have hz : (((ps.length + 1 : Nat) : Int) == 0) = false := beq_eq_false_iff_ne.2 (by omega)
 have hz2 : 0 < ps.length + 1 := by omega
 have hlo : o < lr.length := (gsi.1 hlk).1
 have hlp : p < fr.length := (gsi.1 hfl).1
 obtain ⟨w1,h1,h2,h3⟩ := hF
 obtain rfl := isS_w h2 hfl
 simp only [go_sem,seval,hl,hb,nat_lt hlt,nat_neg,tnc,hget,hlt,hw,hlw,hp,hq,hz,hz2,hk,hlk,hlo,hfl,hlp,h1,h3,hn]
theorem fawait_y (hl : l < bx.length) (hb : bx[l]? = some [.dat N,.dat F,.own true 5 rows,.own true 3 lr]) (hF : IsS 6 fr F) (hget : os[i]? = some [dI o]) (hlt : i < os.length) (hmax : os.length < 9223372036854775808) (hw : ws[i]? = some [dI to,dI b_,dI la]) (hp : ev cfg (.call 97 [.ptr l 0,Aq to b_ la] bx) = Rq (Wq k n a K L)) (hq : ev cfg (.call 92 [Wq k n a K L] bx) = Rq (.dat (.sl 5 ([dI pk,dI pn,dI pa,K2,R] :: ps)))) (hk : (pk != 2) = false) (hlk : lr[o]? = some [dI f,dI t,dI (p : Nat)]) (hfl : fr[p]? = some [dI ffr,dI fto,.lit (.bool els),dI op,dI m,PD]) (hn : (pn != fto) = false) :
  Jq (.loop 96 2 (q0 bx (sh96_2 (.ptr l 0) (.dat (.sl 3 ws)) (.own true 1 os) (I os.length) (I i)))) = ev cfg (.loop 96 2 (q0 bx (sh96_2 (.ptr l 0) (.dat (.sl 3 ws)) (.own true 1 os) (I os.length) (I ((i + 1 : Nat) : Int))))) := by
 have hlw : i < ws.length := (gsi.1 hw).1
 have hz : (((ps.length + 1 : Nat) : Int) == 0) = false := beq_eq_false_iff_ne.2 (by omega)
 have hz2 : 0 < ps.length + 1 := by omega
 have hlo : o < lr.length := (gsi.1 hlk).1
 have hlp : p < fr.length := (gsi.1 hfl).1
 obtain ⟨w1,h1,h2,h3⟩ := hF
 obtain rfl := isS_w h2 hfl
 simp only [go_sem,seval,hl,hb,nat_lt hlt,nat_neg,tnc,hget,hlt,hw,hlw,hp,hq,hz,hz2,hk,hlk,hlo,hfl,hlp,h1,h3,hn,nat_succ hlt hmax]
theorem fawait_end (hl : l < bx.length) {m : Nat} (hge : m <= i) :
  Jq (.loop 96 2 (q0 bx (sh96_2 (.ptr l 0) (.dat (.sl 3 ws)) (.own true 1 os) (I m) (I i)))) = some (.loop (.exit 0) (q0 bx (se96_2 .dead))) := by
 simp only [go_sem,seval,hl,nat_ge hge]
theorem fawait_callf (hl : l < bx.length) (ho : ev cfg (.call 84 [.ptr l 0,I s] bx) = Rq (.own true 1 os))
  (hloop : ev cfg (.loop 96 2 (q0 bx (sh96_2 (.ptr l 0) (.dat (.sl 3 ws)) (.own true 1 os) (I os.length) (I 0)))) = some (.loop .ret (q0 bx (se96_2 (B false))))) :
  Jq (.call 96 [.ptr l 0,I s,.dat (.sl 3 ws)] bx) = Rq (B false) := by
 simp only [go_sem,seval,hl,ho,hloop]
theorem fawait_callt (hl : l < bx.length) (ho : ev cfg (.call 84 [.ptr l 0,I s] bx) = Rq (.own true 1 os))
  (hloop : ev cfg (.loop 96 2 (q0 bx (sh96_2 (.ptr l 0) (.dat (.sl 3 ws)) (.own true 1 os) (I os.length) (I 0)))) = some (.loop (.exit 0) (q0 bx (se96_2 .dead)))) :
  Jq (.call 96 [.ptr l 0,I s,.dat (.sl 3 ws)] bx) = Rq (B true) := by
 simp only [go_sem,seval,hl,ho,hloop]
end
end Go.Proofs.YtifckjhggamefaaGreatDoor
