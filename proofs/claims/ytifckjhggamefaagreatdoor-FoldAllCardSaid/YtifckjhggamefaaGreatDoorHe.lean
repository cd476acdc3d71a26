/- Rounds of the folder's inRow: what is passed over, the end, the call. No condition. -/
import Derived.Test.YtifckjhggamefaaGreatDoorQb
set_option linter.unusedSimpArgs false
set_option linter.unusedVariables false
set_option linter.unusedSectionVars false
namespace Go.Proofs.YtifckjhggamefaaGreatDoor
open Go Go.Vx
set_option maxHeartbeats 4000000
set_option maxRecDepth 10000
section
variable {bx : List Box} {rows lr os : List (List D)} {N F : D} {i l o : Nat} {f t w : Int}
theorem finrow_g (hl : l < bx.length) (hb : bx[l]? = some [.dat N,.dat F,.own true 5 rows,.own true 3 lr]) (hlt : i < rows.length) (hmax : rows.length < 9223372036854775808) (hg : ev cfg (.call 29 [.ptr l 0,I i] bx) = Rq (B true)) : Jq (.loop 62 2 (q0 bx (sh62_2 (.ptr l 0) (I rows.length) (I i)))) = ev cfg (.loop 62 2 (q0 bx (sh62_2 (.ptr l 0) (I rows.length) (I ((i + 1 : Nat) : Int))))) := by
 simp only [go_sem,seval,hl,hb,nat_lt hlt,nat_neg,tnc,nat_succ hlt hmax,hg]
theorem finrow_neg (hl : l < bx.length) (hb : bx[l]? = some [.dat N,.dat F,.own true 5 rows,.own true 3 lr]) (hlt : i < rows.length) (hmax : rows.length < 9223372036854775808) (hg : ev cfg (.call 29 [.ptr l 0,I i] bx) = Rq (B false)) (ho : ev cfg (.call 84 [.ptr l 0,I i] bx) = Rq (.own true 1 ([dI o] :: os))) (hget : lr[o]? = some [dI f,dI t,dI w]) (ht : decide (t < 0) = true) : Jq (.loop 62 2 (q0 bx (sh62_2 (.ptr l 0) (I rows.length) (I i)))) = ev cfg (.loop 62 2 (q0 bx (sh62_2 (.ptr l 0) (I rows.length) (I ((i + 1 : Nat) : Int))))) := by
 have hlo : o < lr.length := (gsi.1 hget).1
 have hz : 0 < os.length + 1 := by omega
 simp only [go_sem,seval,hl,hb,nat_lt hlt,nat_neg,tnc,nat_succ hlt hmax,hg,ho,hz,hget,hlo,ht]
theorem finrow_self (hl : l < bx.length) (hb : bx[l]? = some [.dat N,.dat F,.own true 5 rows,.own true 3 lr]) (hlt : i < rows.length) (hmax : rows.length < 9223372036854775808) (hg : ev cfg (.call 29 [.ptr l 0,I i] bx) = Rq (B false)) (ho : ev cfg (.call 84 [.ptr l 0,I i] bx) = Rq (.own true 1 ([dI o] :: os))) (hget : lr[o]? = some [dI f,dI t,dI w]) (ht : decide (t < 0) = false) (hs : (t == (i : Int)) = true) : Jq (.loop 62 2 (q0 bx (sh62_2 (.ptr l 0) (I rows.length) (I i)))) = ev cfg (.loop 62 2 (q0 bx (sh62_2 (.ptr l 0) (I rows.length) (I ((i + 1 : Nat) : Int))))) := by
 have hlo : o < lr.length := (gsi.1 hget).1
 have hz : 0 < os.length + 1 := by omega
 simp only [go_sem,seval,hl,hb,nat_lt hlt,nat_neg,tnc,nat_succ hlt hmax,hg,ho,hz,hget,hlo,ht,hs]
theorem finrow_gb (hl : l < bx.length) (hb : bx[l]? = some [.dat N,.dat F,.own true 5 rows,.own true 3 lr]) (hlt : i < rows.length) (hmax : rows.length < 9223372036854775808) (hg : ev cfg (.call 29 [.ptr l 0,I i] bx) = Rq (B false)) (ho : ev cfg (.call 84 [.ptr l 0,I i] bx) = Rq (.own true 1 ([dI o] :: os))) (hget : lr[o]? = some [dI f,dI t,dI w]) (ht : decide (t < 0) = false) (hs : (t == (i : Int)) = false) (hg2 : ev cfg (.call 29 [.ptr l 0,I t] bx) = Rq (B true)) : Jq (.loop 62 2 (q0 bx (sh62_2 (.ptr l 0) (I rows.length) (I i)))) = ev cfg (.loop 62 2 (q0 bx (sh62_2 (.ptr l 0) (I rows.length) (I ((i + 1 : Nat) : Int))))) := by
 have hlo : o < lr.length := (gsi.1 hget).1
 have hz : 0 < os.length + 1 := by omega
 simp only [go_sem,seval,hl,hb,nat_lt hlt,nat_neg,tnc,nat_succ hlt hmax,hg,ho,hz,hget,hlo,ht,hs,hg2]
theorem finrow_end {m : Nat} (hl : l < bx.length) (hge : m <= i) :
  Jq (.loop 62 2 (q0 bx (sh62_2 (.ptr l 0) (I m) (I i)))) = some (.loop (.exit 0) (q0 bx (se62_2 .dead))) := by
 simp only [go_sem,seval,hl,nat_ge hge]
theorem finrow_f (hl : l < bx.length) (hb : bx[l]? = some [.dat N,.dat F,.own true 5 rows,.own true 3 lr])
  (hloop : ev cfg (.loop 62 2 (q0 bx (sh62_2 (.ptr l 0) (I rows.length) (I 0)))) = some (.loop (.exit 0) (q0 bx (se62_2 .dead)))) :
  Jq (.call 62 [.ptr l 0] bx) = Rq (B false) := by
 simp only [go_sem,seval,hl,hb,hloop]
theorem finrow_t (hl : l < bx.length) (hb : bx[l]? = some [.dat N,.dat F,.own true 5 rows,.own true 3 lr]) {c : Box}
  (hloop : ev cfg (.loop 62 2 (q0 bx (sh62_2 (.ptr l 0) (I rows.length) (I 0)))) = some (.loop .ret ⟨(se62_2 (B true)),bx.set l c,bx.length,some l,false⟩)) :
  Jq (.call 62 [.ptr l 0] bx) = some (.ret (B true) (some ⟨bx.set l c,l,false⟩)) := by
 simp only [go_sem,seval,hl,hb,hloop]
end
section
variable {bx : List Box} {rows lr os os2 pa pb ks ls : List (List D)} {a1 b1 : List D} {N F K L K2 L2 : D} {i l o o2 tj : Nat} {k n a k2 n2 a2 f w f2 t2 w2 : Int}
theorem finrow_go (hl : l < bx.length) (hb : bx[l]? = some [.dat N,.dat F,.own true 5 rows,.own true 3 lr]) (hlt : i < rows.length) (hmax : rows.length < 9223372036854775808) (hg : ev cfg (.call 29 [.ptr l 0,I i] bx) = Rq (B false)) (ho : ev cfg (.call 84 [.ptr l 0,I i] bx) = Rq (.own true 1 ([dI o] :: os))) (hget : lr[o]? = some [dI f,dI (tj : Nat),dI w]) (hs : (((tj : Nat) : Int) == (i : Int)) = false)
  (hg2 : ev cfg (.call 29 [.ptr l 0,I (tj : Nat)] bx) = Rq (B false))
  (hra : rows[i]? = some [dI k,dI n,dI a,K,L]) (hrb : rows[tj]? = some [dI k2,dI n2,dI a2,K2,L2]) (hK : Oq K) (hL : Oq L) (hK2 : Oq K2) (hL2 : Oq L2)
  (hpa : Cq 92 [Wq k n a K L] (.dat (.sl 5 (a1 :: pa))))
  (hpb : Cq 92 [Wq k2 n2 a2 K2 L2] (.dat (.sl 5 (b1 :: pb))))
  (hcl : Cq 60 [.dat (.sl 5 (a1 :: pa))] (.own true 5 (a1 :: pa)))
  (hks : (pa.length + (1 + (pb.length + 1))) * 72 <= 140737488355328)
  (hrow : Cq 91 [.dat (.sl 5 (a1 :: (pa ++ b1 :: pb)))] (Wq 3 0 0 (.sl 5 (a1 :: (pa ++ b1 :: pb))) .nil))
  (ho2 : ev cfg (.call 84 [.ptr l 0,I (tj : Nat)] (bx.set l [.dat N,.dat F,.own true 5 (rows.set i [dI 3,dI 0,dI 0,.sl 5 (a1 :: (pa ++ b1 :: pb)),.nil]),.own true 3 lr])) = Rq (.own true 1 ([dI o2] :: os2))) (hget2 : lr[o2]? = some [dI f2,dI t2,dI w2])
  (hdr : ev cfg (.call 93 [.ptr l 0,.dat (.sl 1 [[dI (tj : Nat)]]),.dat (.sl 1 [[dI o]])] (bx.set l [.dat N,.dat F,.own true 5 (rows.set i [dI 3,dI 0,dI 0,.sl 5 (a1 :: (pa ++ b1 :: pb)),.nil]),.own true 3 (lr.set o2 [dI (i : Nat),dI t2,dI w2])])) = some (.ret (.tup []) (some ⟨bx.set l [.dat N,.dat F,mkS 5 ks,mkS 3 ls],l,false⟩))) :
  Jq (.loop 62 2 (q0 bx (sh62_2 (.ptr l 0) (I rows.length) (I i)))) = some (.loop .ret ⟨(se62_2 (B true)),bx.set l [.dat N,.dat F,mkS 5 ks,mkS 3 ls],bx.length,some l,false⟩) := by
 have hlo : o < lr.length := (gsi.1 hget).1
 have hlo2 : o2 < lr.length := (gsi.1 hget2).1
 have hlb : tj < rows.length := (gsi.1 hrb).1
 have hz : 0 < os.length + 1 := by omega
 have hz2 : 0 < os2.length + 1 := by omega
 have ht : decide ((tj : Int) < 0) = false := dqf (by omega)
 simp only [go_sem,seval,hl,hb,nat_lt hlt,nat_neg,tnc,hg,ho,hz,hget,hlo,ht,hs,hg2,hra,hrb,hlt,hlb,hK,hL,hK2,hL2,hpa,hpb,hcl,hks,hrow,ho2,hz2,hget2,hlo2,hdr,isCellIn,gss hl,lls]
end
section
variable {bx : List Box} {rows lr pr ls : List (List D)} {N F K L X Z : D} {i l : Nat} {k n a y : Int} {v : Bool}
theorem fdrop_k0 (hl : l < bx.length) (hb : bx[l]? = some [.dat N,.dat F,.own true 5 rows,.own true 3 lr]) (hX : Oq X) (hZ : Oq Z) (hget : rows[i]? = some [dI k,dI n,dI a,K,L]) (hK : Oq K) (hL : Oq L) (hp : pr[i]? = some [dI y]) (hmax : rows.length < 9223372036854775808) (hc : Cq 49 [.dat X,I i] (B v)) :
  Jq (.loop 93 3 (q0 bx (sh93_3 (.ptr l 0) (.dat X) (.dat Z) (.own true 1 pr) (.dat .nil) (.alias (.cell l 2)) (I rows.length) (I i)))) = ev cfg (.loop 93 3 (q0 bx (sh93_3 (.ptr l 0) (.dat X) (.dat Z) (.own true 1 (pr.set i [dI (0 : Nat)])) ((if v = true then .dat .nil else .own true 5 [[dI k,dI n,dI a,K,L]])) (.alias (.cell l 2)) (I rows.length) (I ((i + 1 : Nat) : Int))))) := by
 have hlt : i < rows.length := (gsi.1 hget).1
 have hlp : i < pr.length := (gsi.1 hp).1
 cases v <;> simp only [go_sem,seval,hl,hb,hX,hZ,hK,hL,nat_lt hlt,nat_neg,tnc,hget,hlt,hp,hlp,hc,nat_succ hlt hmax]
theorem fdrop_k1 (hl : l < bx.length) (hb : bx[l]? = some [.dat N,.dat F,.own true 5 rows,.own true 3 lr]) (hX : Oq X) (hZ : Oq Z) (hget : rows[i]? = some [dI k,dI n,dI a,K,L]) (hK : Oq K) (hL : Oq L) (hp : pr[i]? = some [dI y]) (hmax : rows.length < 9223372036854775808) (hks : (ls.length + 1) * 72 <= 140737488355328) (hc : Cq 49 [.dat X,I i] (B v)) :
  Jq (.loop 93 3 (q0 bx (sh93_3 (.ptr l 0) (.dat X) (.dat Z) (.own true 1 pr) (.own true 5 ls) (.alias (.cell l 2)) (I rows.length) (I i)))) = ev cfg (.loop 93 3 (q0 bx (sh93_3 (.ptr l 0) (.dat X) (.dat Z) (.own true 1 (pr.set i [dI (ls.length : Nat)])) (.own true 5 (if v = true then ls else ls ++ [[dI k,dI n,dI a,K,L]])) (.alias (.cell l 2)) (I rows.length) (I ((i + 1 : Nat) : Int))))) := by
 have hlt : i < rows.length := (gsi.1 hget).1
 have hlp : i < pr.length := (gsi.1 hp).1
 cases v <;> simp only [go_sem,seval,hl,hb,hX,hZ,hK,hL,nat_lt hlt,nat_neg,tnc,hget,hlt,hp,hlp,hc,nat_succ hlt hmax,hks]
theorem fdrop_kend {m : Nat} (hl : l < bx.length) (hb : bx[l]? = some [.dat N,.dat F,.own true 5 rows,.own true 3 lr]) (hX : Oq X) (hZ : Oq Z) (hge : m <= i) :
  Jq (.loop 93 3 (q0 bx (sh93_3 (.ptr l 0) (.dat X) (.dat Z) (.own true 1 pr) (mkS 5 ls) (.alias (.cell l 2)) (I m) (I i)))) = some (.loop (.exit 0) (q0 bx (se93_3 (.ptr l 0) (.dat Z) (.own true 1 pr) (mkS 5 ls)))) := by
 cases ls <;> simp only [go_sem,seval,mkS,hl,hb,hX,hZ,nat_ge hge]
end
section
variable {bx : List Box} {rows lr pr ls ks : List (List D)} {N F X Z : D} {i l : Nat}
theorem fdrop_lend {m : Nat} (hl : l < bx.length) (hb : bx[l]? = some [.dat N,.dat F,.own true 5 rows,.own true 3 lr]) (hZ : Oq Z) (hge : m <= i) :
  Jq (.loop 93 11 (q0 bx (sh93_11 (.ptr l 0) (.dat Z) (.own true 1 pr) (mkS 5 ks) (mkS 3 ls) (.alias (.cell l 3)) (I m) (I i)))) = some (.loop (.exit 2) (q0 bx (se93_11 (.ptr l 0) (mkS 5 ks) (mkS 3 ls)))) := by
 cases ks <;> cases ls <;> simp only [go_sem,seval,mkS,hl,hb,hZ,nat_ge hge]
theorem fdrop_f (hl : l < bx.length) (hb : bx[l]? = some [.dat N,.dat F,.own true 5 rows,.own true 3 lr]) (hX : Oq X) (hZ : Oq Z) (hbig : rows.length * 8 <= 140737488355328)
  (h1 : ev cfg (.loop 93 3 (q0 bx (sh93_3 (.ptr l 0) (.dat X) (.dat Z) (.own true 1 (List.replicate rows.length [dI 0])) (.dat .nil) (.alias (.cell l 2)) (I rows.length) (I 0)))) = some (.loop (.exit 0) (q0 bx (se93_3 (.ptr l 0) (.dat Z) (.own true 1 pr) (mkS 5 ks)))))
  (h2 : ev cfg (.loop 93 11 (q0 bx (sh93_11 (.ptr l 0) (.dat Z) (.own true 1 pr) (mkS 5 ks) (.dat .nil) (.alias (.cell l 3)) (I lr.length) (I 0)))) = some (.loop (.exit 2) (q0 bx (se93_11 (.ptr l 0) (mkS 5 ks) (mkS 3 ls))))) :
  Jq (.call 93 [.ptr l 0,.dat X,.dat Z] bx) = some (.ret (.tup []) (some ⟨bx.set l [.dat N,.dat F,mkS 5 ks,mkS 3 ls],l,false⟩)) := by
 have hz : (0 : Int) <= (rows.length : Int) := by omega
 cases ks <;> cases ls <;> simp only [mkS] at h1 h2 <;> simp only [go_sem,seval,mkS,hl,hb,hX,hZ,h1,h2,nat_neg,tnc,hbig,hz,isCellIn,gss hl]
end
section
variable {bx : List Box} {rows lr pr ks : List (List D)} {N F Z : D} {i l fj tj : Nat} {f t w yf yt : Int}
theorem fdrop_gone0 (hl : l < bx.length) (hb : bx[l]? = some [.dat N,.dat F,.own true 5 rows,.own true 3 lr]) (hZ : Oq Z) (hlt : i < lr.length) (hmax : lr.length < 9223372036854775808)  (hget : lr[i]? = some [dI f,dI t,dI w]) (hc : Cq 49 [.dat Z,I i] (B true)) :
  Jq (.loop 93 11 (q0 bx (sh93_11 (.ptr l 0) (.dat Z) (.own true 1 pr) (mkS 5 ks) (.dat .nil) (.alias (.cell l 3)) (I lr.length) (I i)))) = ev cfg (.loop 93 11 (q0 bx (sh93_11 (.ptr l 0) (.dat Z) (.own true 1 pr) (mkS 5 ks) (.dat .nil) (.alias (.cell l 3)) (I lr.length) (I ((i + 1 : Nat) : Int))))) := by
 cases ks <;> simp only [go_sem,seval,mkS,hl,hb,hZ,nat_lt hlt,nat_neg,tnc,hget,hlt,hc,nat_succ hlt hmax]
theorem fdrop_keep0nn (hl : l < bx.length) (hb : bx[l]? = some [.dat N,.dat F,.own true 5 rows,.own true 3 lr]) (hZ : Oq Z) (hlt : i < lr.length) (hmax : lr.length < 9223372036854775808)  (hget : lr[i]? = some [dI f,dI t,dI w]) (hf : decide (f >= 0) = false) (ht : decide (t >= 0) = false) (hc : Cq 49 [.dat Z,I i] (B false)) :
  Jq (.loop 93 11 (q0 bx (sh93_11 (.ptr l 0) (.dat Z) (.own true 1 pr) (mkS 5 ks) (.dat .nil) (.alias (.cell l 3)) (I lr.length) (I i)))) = ev cfg (.loop 93 11 (q0 bx (sh93_11 (.ptr l 0) (.dat Z) (.own true 1 pr) (mkS 5 ks) (.own true 3 [[dI f,dI t,dI w]]) (.alias (.cell l 3)) (I lr.length) (I ((i + 1 : Nat) : Int))))) := by
 cases ks <;> simp only [go_sem,seval,mkS,hl,hb,hZ,nat_lt hlt,nat_neg,tnc,hget,hlt,hc,hf,ht,nat_succ hlt hmax]
theorem fdrop_keep0np (hl : l < bx.length) (hb : bx[l]? = some [.dat N,.dat F,.own true 5 rows,.own true 3 lr]) (hZ : Oq Z) (hlt : i < lr.length) (hmax : lr.length < 9223372036854775808)  (hget : lr[i]? = some [dI f,dI ((tj : Nat) : Int),dI w]) (hf : decide (f >= 0) = false) (ht : pr[tj]? = some [dI yt]) (hc : Cq 49 [.dat Z,I i] (B false)) :
  Jq (.loop 93 11 (q0 bx (sh93_11 (.ptr l 0) (.dat Z) (.own true 1 pr) (mkS 5 ks) (.dat .nil) (.alias (.cell l 3)) (I lr.length) (I i)))) = ev cfg (.loop 93 11 (q0 bx (sh93_11 (.ptr l 0) (.dat Z) (.own true 1 pr) (mkS 5 ks) (.own true 3 [[dI f,dI yt,dI w]]) (.alias (.cell l 3)) (I lr.length) (I ((i + 1 : Nat) : Int))))) := by
 have hlt2 : tj < pr.length := (gsi.1 ht).1
 have htt : decide ((tj : Int) >= 0) = true := dqt (by omega)
 cases ks <;> simp only [go_sem,seval,mkS,hl,hb,hZ,nat_lt hlt,nat_neg,tnc,hget,hlt,hc,hf,ht,hlt2,htt,nat_succ hlt hmax]
theorem fdrop_keep0pn (hl : l < bx.length) (hb : bx[l]? = some [.dat N,.dat F,.own true 5 rows,.own true 3 lr]) (hZ : Oq Z) (hlt : i < lr.length) (hmax : lr.length < 9223372036854775808)  (hget : lr[i]? = some [dI ((fj : Nat) : Int),dI t,dI w]) (hf : pr[fj]? = some [dI yf]) (ht : decide (t >= 0) = false) (hc : Cq 49 [.dat Z,I i] (B false)) :
  Jq (.loop 93 11 (q0 bx (sh93_11 (.ptr l 0) (.dat Z) (.own true 1 pr) (mkS 5 ks) (.dat .nil) (.alias (.cell l 3)) (I lr.length) (I i)))) = ev cfg (.loop 93 11 (q0 bx (sh93_11 (.ptr l 0) (.dat Z) (.own true 1 pr) (mkS 5 ks) (.own true 3 [[dI yf,dI t,dI w]]) (.alias (.cell l 3)) (I lr.length) (I ((i + 1 : Nat) : Int))))) := by
 have hlf : fj < pr.length := (gsi.1 hf).1
 have hff : decide ((fj : Int) >= 0) = true := dqt (by omega)
 cases ks <;> simp only [go_sem,seval,mkS,hl,hb,hZ,nat_lt hlt,nat_neg,tnc,hget,hlt,hc,hf,hlf,hff,ht,nat_succ hlt hmax]
theorem fdrop_keep0pp (hl : l < bx.length) (hb : bx[l]? = some [.dat N,.dat F,.own true 5 rows,.own true 3 lr]) (hZ : Oq Z) (hlt : i < lr.length) (hmax : lr.length < 9223372036854775808)  (hget : lr[i]? = some [dI ((fj : Nat) : Int),dI ((tj : Nat) : Int),dI w]) (hf : pr[fj]? = some [dI yf]) (ht : pr[tj]? = some [dI yt]) (hc : Cq 49 [.dat Z,I i] (B false)) :
  Jq (.loop 93 11 (q0 bx (sh93_11 (.ptr l 0) (.dat Z) (.own true 1 pr) (mkS 5 ks) (.dat .nil) (.alias (.cell l 3)) (I lr.length) (I i)))) = ev cfg (.loop 93 11 (q0 bx (sh93_11 (.ptr l 0) (.dat Z) (.own true 1 pr) (mkS 5 ks) (.own true 3 [[dI yf,dI yt,dI w]]) (.alias (.cell l 3)) (I lr.length) (I ((i + 1 : Nat) : Int))))) := by
 have hlf : fj < pr.length := (gsi.1 hf).1
 have hff : decide ((fj : Int) >= 0) = true := dqt (by omega)
 have hlt2 : tj < pr.length := (gsi.1 ht).1
 have htt : decide ((tj : Int) >= 0) = true := dqt (by omega)
 cases ks <;> simp only [go_sem,seval,mkS,hl,hb,hZ,nat_lt hlt,nat_neg,tnc,hget,hlt,hc,hf,hlf,hff,ht,hlt2,htt,nat_succ hlt hmax]
end
section
variable {bx : List Box} {rows lr pr ls ks : List (List D)} {N F Z : D} {i l fj tj : Nat} {f t w yf yt : Int}
theorem fdrop_gone1 (hl : l < bx.length) (hb : bx[l]? = some [.dat N,.dat F,.own true 5 rows,.own true 3 lr]) (hZ : Oq Z) (hlt : i < lr.length) (hmax : lr.length < 9223372036854775808) (hks : (ls.length + 1) * 24 <= 140737488355328)  (hget : lr[i]? = some [dI f,dI t,dI w]) (hc : Cq 49 [.dat Z,I i] (B true)) :
  Jq (.loop 93 11 (q0 bx (sh93_11 (.ptr l 0) (.dat Z) (.own true 1 pr) (mkS 5 ks) (.own true 3 ls) (.alias (.cell l 3)) (I lr.length) (I i)))) = ev cfg (.loop 93 11 (q0 bx (sh93_11 (.ptr l 0) (.dat Z) (.own true 1 pr) (mkS 5 ks) (.own true 3 ls) (.alias (.cell l 3)) (I lr.length) (I ((i + 1 : Nat) : Int))))) := by
 cases ks <;> simp only [go_sem,seval,mkS,hl,hb,hZ,nat_lt hlt,nat_neg,tnc,hget,hlt,hc,nat_succ hlt hmax]
theorem fdrop_keep1nn (hl : l < bx.length) (hb : bx[l]? = some [.dat N,.dat F,.own true 5 rows,.own true 3 lr]) (hZ : Oq Z) (hlt : i < lr.length) (hmax : lr.length < 9223372036854775808) (hks : (ls.length + 1) * 24 <= 140737488355328)  (hget : lr[i]? = some [dI f,dI t,dI w]) (hf : decide (f >= 0) = false) (ht : decide (t >= 0) = false) (hc : Cq 49 [.dat Z,I i] (B false)) :
  Jq (.loop 93 11 (q0 bx (sh93_11 (.ptr l 0) (.dat Z) (.own true 1 pr) (mkS 5 ks) (.own true 3 ls) (.alias (.cell l 3)) (I lr.length) (I i)))) = ev cfg (.loop 93 11 (q0 bx (sh93_11 (.ptr l 0) (.dat Z) (.own true 1 pr) (mkS 5 ks) (.own true 3 (ls ++ [[dI f,dI t,dI w]])) (.alias (.cell l 3)) (I lr.length) (I ((i + 1 : Nat) : Int))))) := by
 cases ks <;> simp only [go_sem,seval,mkS,hl,hb,hZ,nat_lt hlt,nat_neg,tnc,hget,hlt,hc,hf,ht,nat_succ hlt hmax,hks]
theorem fdrop_keep1np (hl : l < bx.length) (hb : bx[l]? = some [.dat N,.dat F,.own true 5 rows,.own true 3 lr]) (hZ : Oq Z) (hlt : i < lr.length) (hmax : lr.length < 9223372036854775808) (hks : (ls.length + 1) * 24 <= 140737488355328)  (hget : lr[i]? = some [dI f,dI ((tj : Nat) : Int),dI w]) (hf : decide (f >= 0) = false) (ht : pr[tj]? = some [dI yt]) (hc : Cq 49 [.dat Z,I i] (B false)) :
  Jq (.loop 93 11 (q0 bx (sh93_11 (.ptr l 0) (.dat Z) (.own true 1 pr) (mkS 5 ks) (.own true 3 ls) (.alias (.cell l 3)) (I lr.length) (I i)))) = ev cfg (.loop 93 11 (q0 bx (sh93_11 (.ptr l 0) (.dat Z) (.own true 1 pr) (mkS 5 ks) (.own true 3 (ls ++ [[dI f,dI yt,dI w]])) (.alias (.cell l 3)) (I lr.length) (I ((i + 1 : Nat) : Int))))) := by
 have hlt2 : tj < pr.length := (gsi.1 ht).1
 have htt : decide ((tj : Int) >= 0) = true := dqt (by omega)
 cases ks <;> simp only [go_sem,seval,mkS,hl,hb,hZ,nat_lt hlt,nat_neg,tnc,hget,hlt,hc,hf,ht,hlt2,htt,nat_succ hlt hmax,hks]
theorem fdrop_keep1pn (hl : l < bx.length) (hb : bx[l]? = some [.dat N,.dat F,.own true 5 rows,.own true 3 lr]) (hZ : Oq Z) (hlt : i < lr.length) (hmax : lr.length < 9223372036854775808) (hks : (ls.length + 1) * 24 <= 140737488355328)  (hget : lr[i]? = some [dI ((fj : Nat) : Int),dI t,dI w]) (hf : pr[fj]? = some [dI yf]) (ht : decide (t >= 0) = false) (hc : Cq 49 [.dat Z,I i] (B false)) :
  Jq (.loop 93 11 (q0 bx (sh93_11 (.ptr l 0) (.dat Z) (.own true 1 pr) (mkS 5 ks) (.own true 3 ls) (.alias (.cell l 3)) (I lr.length) (I i)))) = ev cfg (.loop 93 11 (q0 bx (sh93_11 (.ptr l 0) (.dat Z) (.own true 1 pr) (mkS 5 ks) (.own true 3 (ls ++ [[dI yf,dI t,dI w]])) (.alias (.cell l 3)) (I lr.length) (I ((i + 1 : Nat) : Int))))) := by
 have hlf : fj < pr.length := (gsi.1 hf).1
 have hff : decide ((fj : Int) >= 0) = true := dqt (by omega)
 cases ks <;> simp only [go_sem,seval,mkS,hl,hb,hZ,nat_lt hlt,nat_neg,tnc,hget,hlt,hc,hf,hlf,hff,ht,nat_succ hlt hmax,hks]
theorem fdrop_keep1pp (hl : l < bx.length) (hb : bx[l]? = some [.dat N,.dat F,.own true 5 rows,.own true 3 lr]) (hZ : Oq Z) (hlt : i < lr.length) (hmax : lr.length < 9223372036854775808) (hks : (ls.length + 1) * 24 <= 140737488355328)  (hget : lr[i]? = some [dI ((fj : Nat) : Int),dI ((tj : Nat) : Int),dI w]) (hf : pr[fj]? = some [dI yf]) (ht : pr[tj]? = some [dI yt]) (hc : Cq 49 [.dat Z,I i] (B false)) :
  Jq (.loop 93 11 (q0 bx (sh93_11 (.ptr l 0) (.dat Z) (.own true 1 pr) (mkS 5 ks) (.own true 3 ls) (.alias (.cell l 3)) (I lr.length) (I i)))) = ev cfg (.loop 93 11 (q0 bx (sh93_11 (.ptr l 0) (.dat Z) (.own true 1 pr) (mkS 5 ks) (.own true 3 (ls ++ [[dI yf,dI yt,dI w]])) (.alias (.cell l 3)) (I lr.length) (I ((i + 1 : Nat) : Int))))) := by
 have hlf : fj < pr.length := (gsi.1 hf).1
 have hff : decide ((fj : Int) >= 0) = true := dqt (by omega)
 have hlt2 : tj < pr.length := (gsi.1 ht).1
 have htt : decide ((tj : Int) >= 0) = true := dqt (by omega)
 cases ks <;> simp only [go_sem,seval,mkS,hl,hb,hZ,nat_lt hlt,nat_neg,tnc,hget,hlt,hc,hf,hlf,hff,ht,hlt2,htt,nat_succ hlt hmax,hks]
end
section
variable {bx : List Box} {nr rows lr rs : List (List D)} {N F K L K2 : D} {Y : PV} {i l c g p : Nat} {k n a q f t w kd aa op2 n2 : Int} {v sp : Bool}
theorem fplaces_round0 (hl : l < bx.length) (hb : bx[l]? = some [.dat N,.dat F,Y,.own true 3 lr]) (hcl : c < bx.length) (hget : lr[i]? = some [dI f,dI t,dI w]) (hlt : i < lr.length) (hmax : lr.length < 9223372036854775808)
  (hcall : ∀ r : Box,ev cfg (.call g [Aq f t w,.ptr c 0] (bx ++ [r])) = Rq (B v)) :
  Jq (.loop 128 3 (q0 bx (sh128_3 (.clo g [c]) (.dat .nil) (.alias (.cell l 3)) (I lr.length) (I i)))) =
   ev cfg (.loop 128 3 (q0 bx (sh128_3 (.clo g [c]) ((if v = true then .own true 1 [[dI i]] else .dat .nil)) (.alias (.cell l 3)) (I lr.length) (I ((i + 1 : Nat) : Int))))) := by
 have hcl' : c < bx.length + 1 := by omega
 cases v <;> simp only [go_sem,seval,hl,hb,hcl,hcl',nat_lt hlt,nat_neg,tnc,hget,hcall,hlt,nat_succ hlt hmax]
theorem fplaces_round1 (hl : l < bx.length) (hb : bx[l]? = some [.dat N,.dat F,Y,.own true 3 lr]) (hcl : c < bx.length) (hget : lr[i]? = some [dI f,dI t,dI w]) (hlt : i < lr.length) (hmax : lr.length < 9223372036854775808) (hks : (rs.length + 1) * 8 <= 140737488355328)
  (hcall : ∀ r : Box,ev cfg (.call g [Aq f t w,.ptr c 0] (bx ++ [r])) = Rq (B v)) :
  Jq (.loop 128 3 (q0 bx (sh128_3 (.clo g [c]) (.own true 1 rs) (.alias (.cell l 3)) (I lr.length) (I i)))) =
   ev cfg (.loop 128 3 (q0 bx (sh128_3 (.clo g [c]) ((.own true 1 (if v = true then rs ++ [[dI i]] else rs))) (.alias (.cell l 3)) (I lr.length) (I ((i + 1 : Nat) : Int))))) := by
 have hcl' : c < bx.length + 1 := by omega
 cases v <;> simp only [go_sem,seval,hl,hb,hcl,hcl',nat_lt hlt,nat_neg,tnc,hget,hcall,hlt,nat_succ hlt hmax,hks]
theorem fplaces_end (hl : l < bx.length) (hb : bx[l]? = some [.dat N,.dat F,Y,.own true 3 lr]) (hcl : c < bx.length) {m : Nat} (hge : m <= i) :
  Jq (.loop 128 3 (q0 bx (sh128_3 (.clo g [c]) (mkS 1 rs) (.alias (.cell l 3)) (I m) (I i)))) = some (.loop (.exit 0) (q0 bx (se128_3 (mkS 1 rs)))) := by
 cases rs <;> simp only [go_sem,seval,mkS,hl,hb,hcl,nat_ge hge]
theorem fplaces_f (hl : l < bx.length) (hb : bx[l]? = some [.dat N,.dat F,Y,.own true 3 lr]) (hcl : c < bx.length)
  (hloop : ev cfg (.loop 128 3 (q0 bx (sh128_3 (.clo g [c]) (.dat .nil) (.alias (.cell l 3)) (I lr.length) (I 0)))) = some (.loop (.exit 0) (q0 bx (se128_3 (mkS 1 rs))))) :
  Jq (.call 128 [.ptr l 0,.clo g [c]] bx) = Rq (mkS 1 rs) := by
 cases rs <;> simp only [mkS] at hloop <;> simp only [go_sem,seval,mkS,hl,hb,hcl,hloop]
theorem fouts1_f (hc : c < bx.length) (hb : bx[c]? = some [I q]) :
  Jq (.call 130 [Aq f t w,.ptr c 0] bx) = Rq (B (f == q)) := by
 simp only [go_sem,seval,hc,hb]
theorem fouts_f (hl : l < bx.length) (hc : ev cfg (.call 128 [.ptr l 0,.clo 130 [bx.length]] (bx ++ [[I q]])) = Rq (mkS 1 rs)) :
  Jq (.call 84 [.ptr l 0,I q] bx) = Rq (mkS 1 rs) := by
 cases rs <;> simp only [mkS] at hc <;> simp only [go_sem,seval,mkS,hl,hc]
theorem fins1_f (hc : c < bx.length) (hb : bx[c]? = some [I q]) :
  Jq (.call 129 [Aq f t w,.ptr c 0] bx) = Rq (B (t == q)) := by
 simp only [go_sem,seval,hc,hb]
theorem fins_f (hl : l < bx.length) (hc : ev cfg (.call 128 [.ptr l 0,.clo 129 [bx.length]] (bx ++ [[I q]])) = Rq (mkS 1 rs)) :
  Jq (.call 83 [.ptr l 0,I q] bx) = Rq (mkS 1 rs) := by
 cases rs <;> simp only [mkS] at hc <;> simp only [go_sem,seval,mkS,hl,hc]
theorem fgate_neg (hl : l < bx.length) (h : decide (q >= 0) = false) : Jq (.call 29 [.ptr l 0,I q] bx) = Rq (B false) := by
 simp only [go_sem,seval,hl,h]
theorem fgate_f (hl : l < bx.length) (hb : bx[l]? = some [.dat N,.dat F,.own true 5 rows,Y]) (hget : rows[i]? = some [dI k,dI n,dI a,K,L]) : Jq (.call 29 [.ptr l 0,I i] bx) = Rq (B (k == 8)) := by
 have hlt : i < rows.length := (gsi.1 hget).1
 have h : decide ((i : Int) >= 0) = true := dqt (by omega)
 simp only [go_sem,seval,hl,hb,h,hget,hlt,nat_neg,tnc]
theorem fis_ng (hl : l < bx.length) (hg : ev cfg (.call 29 [.ptr l 0,I q] bx) = Rq (B false)) : Jq (.call 94 [.ptr l 0,I q,I kd,B sp] bx) = Rq (B false) := by
 simp only [go_sem,seval,hl,hg]
theorem fis_f (hl : l < bx.length) (hb : bx[l]? = some [.dat N,.dat F,.own true 5 rows,Y]) (hget : rows[i]? = some [dI k,dI p,dI a,K,L]) (hN : IsS 5 nr N) (hp : nr[p]? = some [dI aa,dI n,dI op2,dI n2,K2]) (hg : ev cfg (.call 29 [.ptr l 0,I i] bx) = Rq (B true))
  (ho : ev cfg (.call 84 [.ptr l 0,I i] bx) = Rq (mkS 1 rs)) :
  Jq (.call 94 [.ptr l 0,I i,I kd,B sp] bx) = Rq (B ((aa == kd) && (decide ((rs.length : Int) > 1) == sp))) := by
 have hlt : i < rows.length := (gsi.1 hget).1
 have lp : p < nr.length := (gsi.1 hp).1
 obtain ⟨w1,h1,h2,h3⟩ := hN
 obtain rfl := isS_w h2 hp
 cases c0 : (aa == kd)
 ·simp only [go_sem,seval,hl,hb,hg,hget,hlt,nat_neg,tnc,h1,h3,hp,lp,c0]
 ·cases rs <;> simp only [mkS] at ho <;> simp only [go_sem,seval,hl,hb,hg,hget,hlt,nat_neg,tnc,h1,h3,hp,lp,c0,ho]
end
end Go.Proofs.YtifckjhggamefaaGreatDoor
