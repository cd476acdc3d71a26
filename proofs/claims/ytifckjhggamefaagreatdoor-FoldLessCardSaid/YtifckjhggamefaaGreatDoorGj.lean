/- Rounds of the folder's drop: links. No condition. -/
import Derived.Test.YtifckjhggamefaaGreatDoorPb
set_option linter.unusedSimpArgs false
set_option linter.unusedVariables false
set_option linter.unusedSectionVars false
namespace Go.Proofs.YtifckjhggamefaaGreatDoor
open Go Go.Vx
set_option maxHeartbeats 4000000
set_option maxRecDepth 10000
section
variable {bx : List Box} {rows lr pr ls ks : List (List D)} {N F Z : D} {i l fj tj : Nat} {f t w yf yt : Int}
theorem fdrop_gone1 (hl : l < bx.length) (hb : bx[l]? = some [.dat N,.dat F,.own true 5 rows,.own true 3 lr]) (hZ : Oq Z) (hlt : i < lr.length) (hmax : lr.length < 9223372036854775808) (hks : (ls.length + 1) * 24 <= 140737488355328)  (hget : lr[i]? = some [dI f,dI t,dI w]) (hc : Cq 49 [.dat Z,I i] (B true)) :
  Jq (.loop 93 11 (q0 bx (sh93_11 (.ptr l 0) (.dat Z) (.own true 1 pr) (mkS 5 ks) (.own true 3 ls) (.alias (.cell l 3)) (I lr.length) (I i)))) = ev cfg (.loop 93 11 (q0 bx (sh93_11 (.ptr l 0) (.dat Z) (.own true 1 pr) (mkS 5 ks) (.own true 3 ls) (.alias (.cell l 3)) (I lr.length) (I ((i + 1 : Nat) : Int))))) := by
 cases ks <;> simp only [go_sem,seval,mkS,hl,hb,hZ,nat_lt hlt,nat_neg,tnc,hget,hlt,hc,nat_succ hlt hmax]
theorem fdrop_keep1nn (hl : l < bx.length) (hb : bx[l]? = some [.dat N,.dat F,.own true 5 rows,.own true 3 lr]) (hZ : Oq Z) (hlt : i < lr.length) (hmax : lr.length < 9223372036854775808) (hks : (ls.length + 1) * 24 <= 140737488355328)  (hget : lr[i]? = some [dI f,dI t,dI w]) (hf : decide (f >= 0) = false) (ht : decide (t >= 0) = false) (hc : Cq 49 [.dat Z,I i] (B false)) :
  Jq (.loop 93 11 (q0 bx (sh93_11 (.ptr l 0) (.dat Z) (.own true 1 pr) (mkS 5 ks) (.own true 3 ls) (.alias (.cell l 3)) (I lr.length) (I i)))) = ev cfg (.loop 93 11 (q0 bx (sh93_11 (.ptr l 0) (.dat Z) (.own true 1 pr) (mkS 5 ks) (.own true 3 (ls ++ [[dI f,dI t,dI w]])) (.alias (.cell l 3)) (I lr.length) (I ((i + 1 : Nat) : Int))))) := by
 cases ks <;> simp only [go_sem,seval,mkS,hl,hb,hZ,nat_lt hlt,nat_neg,tnc,hget,hlt,hc,hf,ht,nat_succ hlt hmax,hks]
theorem fdrop_keep1np (hl : l < bx.length) (hb : bx[l]? = some [.dat N,.dat F,.own true 5 rows,.own true 3 lr]) (hZ : Oq Z) (hlt : i < lr.length) (hmax : lr.length < 9223372036854775808) (hks : (ls.length + 1) * 24 <= 140737488355328)  (hget : lr[i]? = some [dI f,dI ((tj : Nat) : Int),dI w]) (hf : decide (f >= 0) = false) (ht : pr[tj]? = some [dI yt]) (hc : Cq 49 [.dat Z,I i] (B false)) :
  Jq (.loop 93 11 (q0 bx (sh93_11 (.ptr l 0) (.dat Z) (.own true 1 pr) (mkS 5 ks) (.own true 3 ls) (.alias (.cell l 3)) (I lr.length) (I i)))) = ev cfg (.loop 93 11 (q0 bx (sh93_11 (.ptr l 0) (.dat Z) (.own true 1 pr) (mkS 5 ks) (.own true 3 (ls ++ [[dI f,dI yt,dI w]])) (.alias (.cell l 3)) (I lr.length) (I ((i + 1 : Nat) : Int))))) := by
 have hlt2 : tj < pr.length := (gsi.1 ht).1
 have htt : decide ((tj : Int) >= 0) = true := dqt (by omega)
 cases ks <;> simp only [go_sem,seval,mkS,hl,hb,hZ,nat_lt hlt,nat_neg,tnc,hget,hlt,hc,hf,ht,hlt2,htt,nat_succ hlt hmax,hks]
theorem fdrop_keep1pn (hl : l < bx.length) (hb : bx[l]? = some [.dat N,.dat F,.own true 5 rows,.own true 3 lr]) (hZ : Oq Z) (hlt : i < lr.length) (hmax : lr.length < 9223372036854775808) (hks : (ls.length + 1) * 24 <= 140737488355328)  (hget : lr[i]? = some [dI ((fj : Nat) : Int),dI t,dI w]) (hf : pr[fj]? = some [dI yf]) (ht : decide (t >= 0) = false) (hc : Cq 49 [.dat Z,I i] (B false)) :
  Jq (.loop 93 11 (q0 bx (sh93_11 (.ptr l 0) (.dat Z) (.own true 1 pr) (mkS 5 ks) (.own true 3 ls) (.alias (.cell l 3)) (I lr.length) (I i)))) = ev cfg (.loop 93 11 (q0 bx (sh93_11 (.ptr l 0) (.dat Z) (.own true 1 pr) (mkS 5 ks) (.own true 3 (ls ++ [[dI yf,dI t,dI w]])) (.alias (.cell l 3)) (I lr.length) (I ((i + 1 : Nat) : Int))))) := by
 have hlf : fj < pr.length := (gsi.1 hf).1
 have hff : decide ((fj : Int) >= 0) = true := dqt (by omega)
 cases ks <;> simp only [go_sem,seval,mkS,hl,hb,hZ,nat_lt hlt,nat_neg,tnc,hget,hlt,hc,hf,hlf,hff,ht,nat_succ hlt hmax,hks]
theorem fdrop_keep1pp (hl : l < bx.length) (hb : bx[l]? = some [.dat N,.dat F,.own true 5 rows,.own true 3 lr]) (hZ : Oq Z) (hlt : i < lr.length) (hmax : lr.length < 9223372036854775808) (hks : (ls.length + 1) * 24 <= 140737488355328)  (hget : lr[i]? = some [dI ((fj : Nat) : Int),dI ((tj : Nat) : Int),dI w]) (hf : pr[fj]? = some [dI yf]) (ht : pr[tj]? = some [dI yt]) (hc : Cq 49 [.dat Z,I i] (B false)) :
  Jq (.loop 93 11 (q0 bx (sh93_11 (.ptr l 0) (.dat Z) (.own true 1 pr) (mkS 5 ks) (.own true 3 ls) (.alias (.cell l 3)) (I lr.length) (I i)))) = ev cfg (.loop 93 11 (q0 bx (sh93_11 (.ptr l 0) (.dat Z) (.own true 1 pr) (mkS 5 ks) (.own true 3 (ls ++ [[dI yf,dI yt,dI w]])) (.alias (.cell l 3)) (I lr.length) (I ((i + 1 : Nat) : Int))))) := by
 have hlf : fj < pr.length := (gsi.1 hf).1
 have hff : decide ((fj : Int) >= 0) = true := dqt (by omega)
 have hlt2 : tj < pr.length := (gsi.1 ht).1
 have htt : decide ((tj : Int) >= 0) = true := dqt (by omega)
 cases ks <;> simp only [go_sem,seval,mkS,hl,hb,hZ,nat_lt hlt,nat_neg,tnc,hget,hlt,hc,hf,hlf,hff,ht,hlt2,htt,nat_succ hlt hmax,hks]
end
section
variable {bx : List Box} {nr rows lr rs : List (List D)} {N F K L K2 : D} {Y : PV} {i l c g p : Nat} {k n a q f t w kd aa op2 n2 : Int} {v sp : Bool}
theorem fplaces_round0 (hl : l < bx.length) (hb : bx[l]? = some [.dat N,.dat F,Y,.own true 3 lr]) (hcl : c < bx.length) (hget : lr[i]? = some [dI f,dI t,dI w]) (hlt : i < lr.length) (hmax : lr.length < 9223372036854775808)
  (hcall : ∀ r : Box,ev cfg (.call g [Aq f t w,.ptr c 0] (bx ++ [r])) = Rq (B v)) :
  Jq (.loop 128 3 (q0 bx (sh128_3 (.clo g [c]) (.dat .nil) (.alias (.cell l 3)) (I lr.length) (I i)))) =
   ev cfg (.loop 128 3 (q0 bx (sh128_3 (.clo g [c]) ((if v = true then .own true 1 [[dI i]] else .dat .nil)) (.alias (.cell l 3)) (I lr.length) (I ((i + 1 : Nat) : Int))))) := by
 have hcl' : c < bx.length + 1 := by omega
 cases v <;> simp only [go_sem,seval,hl,hb,hcl,hcl',nat_lt hlt,nat_neg,tnc,hget,hcall,hlt,nat_succ hlt hmax]
theorem fplaces_round1 (hl : l < bx.length) (hb : bx[l]? = some [.dat N,.dat F,Y,.own true 3 lr]) (hcl : c < bx.length) (hget : lr[i]? = some [dI f,dI t,dI w]) (hlt : i < lr.length) (hmax : lr.length < 9223372036854775808) (hks : (rs.length + 1) * 8 <= 140737488355328)
  (hcall : ∀ r : Box,ev cfg (.call g [Aq f t w,.ptr c 0] (bx ++ [r])) = Rq (B v)) :
  Jq (.loop 128 3 (q0 bx (sh128_3 (.clo g [c]) (.own true 1 rs) (.alias (.cell l 3)) (I lr.length) (I i)))) =
   ev cfg (.loop 128 3 (q0 bx (sh128_3 (.clo g [c]) ((.own true 1 (if v = true then rs ++ [[dI i]] else rs))) (.alias (.cell l 3)) (I lr.length) (I ((i + 1 : Nat) : Int))))) := by
 have hcl' : c < bx.length + 1 := by omega
 cases v <;> simp only [go_sem,seval,hl,hb,hcl,hcl',nat_lt hlt,nat_neg,tnc,hget,hcall,hlt,nat_succ hlt hmax,hks]
theorem fplaces_end (hl : l < bx.length) (hb : bx[l]? = some [.dat N,.dat F,Y,.own true 3 lr]) (hcl : c < bx.length) {m : Nat} (hge : m <= i) :
  Jq (.loop 128 3 (q0 bx (sh128_3 (.clo g [c]) (mkS 1 rs) (.alias (.cell l 3)) (I m) (I i)))) = some (.loop (.exit 0) (q0 bx (se128_3 (mkS 1 rs)))) := by
 cases rs <;> simp only [go_sem,seval,mkS,hl,hb,hcl,nat_ge hge]
theorem fplaces_f (hl : l < bx.length) (hb : bx[l]? = some [.dat N,.dat F,Y,.own true 3 lr]) (hcl : c < bx.length)
  (hloop : ev cfg (.loop 128 3 (q0 bx (sh128_3 (.clo g [c]) (.dat .nil) (.alias (.cell l 3)) (I lr.length) (I 0)))) = some (.loop (.exit 0) (q0 bx (se128_3 (mkS 1 rs))))) :
  Jq (.call 128 [.ptr l 0,.clo g [c]] bx) = Rq (mkS 1 rs) := by
 cases rs <;> simp only [mkS] at hloop <;> simp only [go_sem,seval,mkS,hl,hb,hcl,hloop]
theorem fouts1_f (hc : c < bx.length) (hb : bx[c]? = some [I q]) :
  Jq (.call 130 [Aq f t w,.ptr c 0] bx) = Rq (B (f == q)) := by
 simp only [go_sem,seval,hc,hb]
theorem fouts_f (hl : l < bx.length) (hc : ev cfg (.call 128 [.ptr l 0,.clo 130 [bx.length]] (bx ++ [[I q]])) = Rq (mkS 1 rs)) :
  Jq (.call 84 [.ptr l 0,I q] bx) = Rq (mkS 1 rs) := by
 cases rs <;> simp only [mkS] at hc <;> simp only [go_sem,seval,mkS,hl,hc]
theorem fins1_f (hc : c < bx.length) (hb : bx[c]? = some [I q]) :
  Jq (.call 129 [Aq f t w,.ptr c 0] bx) = Rq (B (t == q)) := by
 simp only [go_sem,seval,hc,hb]
theorem fins_f (hl : l < bx.length) (hc : ev cfg (.call 128 [.ptr l 0,.clo 129 [bx.length]] (bx ++ [[I q]])) = Rq (mkS 1 rs)) :
  Jq (.call 83 [.ptr l 0,I q] bx) = Rq (mkS 1 rs) := by
 cases rs <;> simp only [mkS] at hc <;> simp only [go_sem,seval,mkS,hl,hc]
theorem fgate_neg (hl : l < bx.length) (h : decide (q >= 0) = false) : Jq (.call 29 [.ptr l 0,I q] bx) = Rq (B false) := by
 simp only [go_sem,seval,hl,h]
theorem fgate_f (hl : l < bx.length) (hb : bx[l]? = some [.dat N,.dat F,.own true 5 rows,Y]) (hget : rows[i]? = some [dI k,dI n,dI a,K,L]) : Jq (.call 29 [.ptr l 0,I i] bx) = Rq (B (k == 8)) := by
 have hlt : i < rows.length := (gsi.1 hget).1
 have h : decide ((i : Int) >= 0) = true := dqt (by omega)
 simp only [go_sem,seval,hl,hb,h,hget,hlt,nat_neg,tnc]
theorem fis_ng (hl : l < bx.length) (hg : ev cfg (.call 29 [.ptr l 0,I q] bx) = Rq (B false)) : Jq (.call 94 [.ptr l 0,I q,I kd,B sp] bx) = Rq (B false) := by
 simp only [go_sem,seval,hl,hg]
theorem fis_f (hl : l < bx.length) (hb : bx[l]? = some [.dat N,.dat F,.own true 5 rows,Y]) (hget : rows[i]? = some [dI k,dI p,dI a,K,L]) (hN : IsS 5 nr N) (hp : nr[p]? = some [dI aa,dI n,dI op2,dI n2,K2]) (hg : ev cfg (.call 29 [.ptr l 0,I i] bx) = Rq (B true))
  (ho : ev cfg (.call 84 [.ptr l 0,I i] bx) = Rq (mkS 1 rs)) :
  Jq (.call 94 [.ptr l 0,I i,I kd,B sp] bx) = Rq (B ((aa == kd) && (decide ((rs.length : Int) > 1) == sp))) := by
 have hlt : i < rows.length := (gsi.1 hget).1
 have lp : p < nr.length := (gsi.1 hp).1
 obtain ⟨w1,h1,h2,h3⟩ := hN
 obtain rfl := isS_w h2 hp
 cases c0 : (aa == kd)
 ·simp only [go_sem,seval,hl,hb,hg,hget,hlt,nat_neg,tnc,h1,h3,hp,lp,c0]
 ·cases rs <;> simp only [mkS] at ho <;> simp only [go_sem,seval,hl,hb,hg,hget,hlt,nat_neg,tnc,h1,h3,hp,lp,c0,ho]
end
section
variable {bx : List Box} {rows lr rs : List (List D)} {N F K L R : D} {Y : PV} {i l o : Nat} {k n a f t w to b la t2 f2 w2 : Int}
theorem ffollow_neg (hl : l < bx.length) (hb : bx[l]? = some [.dat N,.dat F,Y,.own true 3 lr]) (hget : lr[i]? = some [dI f,dI t,dI w]) (ht : decide (t < 0) = true) : Jq (.call 98 [.ptr l 0,I i] bx) = Rq (Aq t (-1) i) := by
 have hlt : i < lr.length := (gsi.1 hget).1
 simp only [go_sem,seval,hl,hb,hget,hlt,nat_neg,tnc,ht]
theorem ffollow_gate (hl : l < bx.length) (hb : bx[l]? = some [.dat N,.dat F,Y,.own true 3 lr]) (hget : lr[i]? = some [dI f,dI t,dI w]) (ht : decide (t < 0) = false) (hg : ∀ r : Box,ev cfg (.call 29 [.ptr l 0,I t] (bx ++ [r])) = Rq (B true)) : Jq (.call 98 [.ptr l 0,I i] bx) = Rq (Aq t (-1) i) := by
 have hlt : i < lr.length := (gsi.1 hget).1
 simp only [go_sem,seval,hl,hb,hget,hlt,nat_neg,tnc,ht,hg]
theorem ffollow_f (hl : l < bx.length) (hb : bx[l]? = some [.dat N,.dat F,Y,.own true 3 lr]) (hget : lr[i]? = some [dI f,dI t,dI w]) (ht : decide (t < 0) = false) (hg : ∀ r : Box,ev cfg (.call 29 [.ptr l 0,I t] (bx ++ [r])) = Rq (B false))
  (ho : ∀ r : Box,ev cfg (.call 84 [.ptr l 0,I t] (bx ++ [r])) = Rq (.own true 1 ([dI o] :: rs))) (hget2 : lr[o]? = some [dI f2,dI t2,dI w2]) :
  Jq (.call 98 [.ptr l 0,I i] bx) = Rq (Aq t2 t o) := by
 have hlt : i < lr.length := (gsi.1 hget).1
 have hlt2 : o < lr.length := (gsi.1 hget2).1
 have hz : 0 < rs.length + 1 := by omega
 simp only [go_sem,seval,hl,hb,hget,hlt,hget2,hlt2,nat_neg,tnc,ht,hg,ho,hz]
theorem fpart_neg (hl : l < bx.length) (h : decide (b < 0) = true) : Jq (.call 97 [.ptr l 0,Aq to b la] bx) = Rq (Wq 1 0 0 .nil .nil) := by
 simp only [go_sem,seval,hl,h]
theorem fpart_f (hl : l < bx.length) (hb : bx[l]? = some [.dat N,.dat F,.own true 5 rows,Y]) (hget : rows[i]? = some [dI k,dI n,dI a,K,L]) (hK : Oq K) (hL : Oq L) : Jq (.call 97 [.ptr l 0,Aq to i la] bx) = Rq (Wq k n a K L) := by
 have hlt : i < rows.length := (gsi.1 hget).1
 simp only [go_sem,seval,hl,hb,hget,hlt,nat_neg,tnc,hK,hL]
theorem fparts_f (hK : Oq K) (hL : Oq L) : Jq (.call 92 [Wq k n a K L] bx) = Rq (if (k == 3) = true then .dat K else if (k == 1) = true then .dat .nil else .dat (.sl 5 [[dI k,dI n,dI a,K,L]])) := by
 cases c0 : (k == 3)
 ·cases c1 : (k == 1) <;> simp only [go_sem,seval,hK,hL,c0,c1]
 ·simp only [go_sem,seval,hK,hL,c0]
theorem frow_0 (hR : IsS 5 [] R) : Jq (.call 91 [.dat R] bx) = Rq (Wq 1 0 0 .nil .nil) := by
 obtain ⟨w1,h1,h2,h3⟩ := hR
 have z0 : ((((0 : Nat) : Int)) == 0) = true := rfl
 simp only [go_sem,seval,h1,h3,z0]
theorem frow_1 (hR : IsS 5 [[dI k,dI n,dI a,K,L]] R) (hK : Oq K) (hL : Oq L) : Jq (.call 91 [.dat R] bx) = Rq (Wq k n a K L) := by
 obtain ⟨w1,h1,h2,h3⟩ := hR
 obtain rfl := isS_w (i := 0) h2 rfl
 have z0 : ((((1 : Nat) : Int)) == 0) = false := rfl
 have z1 : ((((1 : Nat) : Int)) == 1) = true := rfl
 simp only [go_sem,seval,h1,h3,hK,hL,z0,z1]
theorem frow_n {r1 r2 : List D} (hR : IsS 5 (r1 :: r2 :: rs) R) (hc : ∀ r : Box,ev cfg (.call 60 [.dat R] (bx ++ [r])) = Rq (.own true 5 (r1 :: r2 :: rs))) (hmax : (r1 :: r2 :: rs).length < 9223372036854775808) :
  Jq (.call 91 [.dat R] bx) = Rq (Wq 3 0 0 (.sl 5 (r1 :: r2 :: rs)) .nil) := by
 obtain ⟨w1,h1,h2,h3⟩ := hR
 have e0 : ((((r1 :: r2 :: rs).length : Nat) : Int) == 0) = false := by simp; omega
 have e1 : ((((r1 :: r2 :: rs).length : Nat) : Int) == 1) = false := by simp; omega
 rw [List.length_cons,List.length_cons] at e0 e1
 simp only [go_sem,seval,h1,h3,e0,e1,hc]
theorem clone5_nil : Jq (.call 60 [.dat .nil] bx) = Rq (.dat .nil) := by
 simp only [go_sem,seval]
theorem clone5_rows {r : List D} {rs : List (List D)} (hks : (rs.length + 1) * 72 <= 140737488355328) : Jq (.call 60 [.dat (.sl 5 (r :: rs))] bx) = Rq (.own true 5 (r :: rs)) := by
 simp only [go_sem,seval,hks]
theorem clone3_nil : Jq (.call 61 [.dat .nil] bx) = Rq (.dat .nil) := by
 simp only [go_sem,seval]
theorem clone3_rows {r : List D} {rs : List (List D)} (hks : (rs.length + 1) * 24 <= 140737488355328) : Jq (.call 61 [.dat (.sl 3 (r :: rs))] bx) = Rq (.own true 3 (r :: rs)) := by
 simp only [go_sem,seval,hks]
theorem fweb_f {r x : List D} {rs xs : List (List D)} (hl : l < bx.length) (hb : bx[l]? = some [.dat N,.dat F,.own true 5 (r :: rs),.own true 3 (x :: xs)]) : Jq (.call 30 [.ptr l 0] bx) =
  some (.ret (Wq 9 0 0 (.sl 5 (r :: rs)) (.sl 3 (x :: xs))) (some ⟨bx.set l [.dat N,.dat F,.own false 5 (r :: rs),.own false 3 (x :: xs)],l,false⟩)) := by
 simp only [go_sem,seval,hl,hb]
theorem fof_f (hN : Oq N) (hF : Oq F) (hK : Oq K) (hL : Oq L) (h1 : Cq 60 [.dat K] (mkS 5 rows)) (h2 : Cq 61 [.dat L] (mkS 3 lr)) :
  Jq (.call 27 [Nq N F,Wq k n a K L] bx) = some (.ret (P2 bx) (some ⟨bx ++ [Nb N F,Wx k n a K L,[.dat N,.dat F,mkS 5 rows,mkS 3 lr]],bx.length,false⟩)) := by
 cases rows <;> cases lr <;> simp only [mkS] at h1 h2 <;> simp only [go_sem,seval,hN,hF,hK,hL,h1,h2,mkS]
end
def iR (zs : List Int) : List (List D) := zs.map fun z => [dI z]
theorem iR_len (xs : List Int) : (iR xs).length = xs.length := by simp [iR]
def nR (ks : List Nat) : List (List D) := iR (ks.map fun (k : Nat) => (k : Int))
theorem nR_app (xs ys : List Nat) : nR (xs ++ ys) = nR xs ++ nR ys := by simp [nR,iR]
theorem nR_len (xs : List Nat) : (nR xs).length = xs.length := by simp [nR,iR]
section
variable {bx : List Box} {xr : List (List D)} {X : D} {i : Nat} {x y : Int}
theorem fIdx_round (hX : IsS 1 xr X) (hget : xr[i]? = some [dI y]) (hlt : i < xr.length) (hmax : xr.length < 9223372036854775808) :
  Jq (.loop 81 2 (q0 bx (sh81_2 (.dat X) (I x) (I xr.length) (I i)))) =
   if (x == y) = true then some (.loop .ret (q0 bx (se81_2 (I i)))) else ev cfg (.loop 81 2 (q0 bx (sh81_2 (.dat X) (I x) (I xr.length) (I ((i + 1 : Nat) : Int))))) := by
 obtain ⟨w,h1,h2,h3⟩ := hX
 obtain rfl := isS_w h2 hget
 cases c0 : (x == y) <;> simp only [go_sem,seval,h1,h3,nat_lt hlt,nat_neg,tnc,hget,nat_succ hlt hmax,c0]
theorem fIdx_stop (hX : Oq X) {m : Nat} (hge : m <= i) :
  Jq (.loop 81 2 (q0 bx (sh81_2 (.dat X) (I x) (I m) (I i)))) = some (.loop (.exit 0) (q0 bx (se81_2 .dead))) := by
 simp only [go_sem,seval,hX,nat_ge hge]
theorem fIdx_call {y : Option Nat} (hX : IsS 1 xr X)
  (hloop : ev cfg (.loop 81 2 (q0 bx (sh81_2 (.dat X) (I x) (I xr.length) (I 0)))) = some (match y with
   | some j => .loop .ret (q0 bx (se81_2 (I j)))
   | none => .loop (.exit 0) (q0 bx (se81_2 .dead)))) :
  Jq (.call 81 [.dat X,I x] bx) = Rq (I (match y with | some j => (j : Int) | none => -1)) := by
 obtain ⟨w,h1,h2,h3⟩ := hX
 cases y <;> simp only at hloop <;> simp only [go_sem,seval,h1,h3,hloop]
theorem fHas_call {y : Int} (hX : Oq X) (hc : ev cfg (.call 81 [.dat X,I x] bx) = Rq (I y)) :
  Jq (.call 49 [.dat X,I x] bx) = Rq (B (decide (y >= 0))) := by
 simp only [go_sem,seval,hX,hc]
end
theorem fHas_ev (xs : List Int) (X : D) (hX : IsS 1 (iR xs) X) (hlen : xs.length < 1000000) (x : Int) (bx : List Box) : ev cfg (.call 49 [.dat X,I x] bx) = Rq (B (xs.any fun y => x == y)) := by
 have oX : Oq X := by obtain ⟨_,_,_,h⟩ := hX; exact h
 have hl : (iR xs).length = xs.length := iR_len xs
 have loop : ∀ (ys : List Int) (i : Nat),xs.drop i = ys -> ∃ q : Option Nat,q.isSome = (ys.any fun y => x == y) /\ ev cfg (.loop 81 2 (q0 bx (sh81_2 (.dat X) (I x) (I (iR xs).length) (I i)))) = some (match q with
   | some j => .loop .ret (q0 bx (se81_2 (I j)))
   | none => .loop (.exit 0) (q0 bx (se81_2 .dead))) := by
  intro ys
  induction ys with
  | nil =>
   intro i hd
   exact ⟨none,rfl,es (fIdx_stop oX (by rw [hl]; exact drop_nil hd))⟩
  | cons y ys ih =>
   intro i hd
   obtain ⟨hget,hd',hlt⟩ := drop_cons hd
   have hr := fIdx_round (bx := bx) (x := x) (y := y) (i := i) hX (by simp [iR,hget]) (by rw [hl]; exact hlt) (by rw [hl]; omega)
   rw [List.any_cons]
   by_cases hx : (x == y) = true
   ·rw [if_pos hx] at hr
    exact ⟨some i,by rw [hx]; rfl,es hr⟩
   ·rw [if_neg hx] at hr
    obtain ⟨q,h1,h2⟩ := ih (i + 1) hd'
    rw [Bool.not_eq_true] at hx
    exact ⟨q,by rw [hx,Bool.false_or]; exact h1,es (hr.trans h2)⟩
 obtain ⟨q,h1,h2⟩ := loop xs 0 rfl
 have hc := es (fHas_call oX (es (fIdx_call hX h2)))
 rw [hc]
 cases q with
 | some j =>
  have e : (xs.any fun y => x == y) = true := h1.symm
  rw [e]
  have : decide (((j : Nat) : Int) >= 0) = true := dqt (by omega)
  simp only [this]
 | none =>
  have e : (xs.any fun y => x == y) = false := h1.symm
  rw [e]; rfl
section
variable {bx : List Box} {c : Box} {l : Nat}
theorem fstep_1 (hl : l < bx.length) (h1 : ev cfg (.call 62 [.ptr l 0] bx) = some (.ret (B true) (some ⟨bx.set l c,l,false⟩))) :
  Jq (.call 28 [.ptr l 0] bx) = some (.ret (I 1) (some ⟨bx.set l c,l,false⟩)) := by
 simp only [go_sem,seval,hl,h1]
theorem fstep_2 (hl : l < bx.length) (h1 : ev cfg (.call 62 [.ptr l 0] bx) = Rq (B false)) (h2 : ev cfg (.call 63 [.ptr l 0] bx) = some (.ret (B true) (some ⟨bx.set l c,l,false⟩))) :
  Jq (.call 28 [.ptr l 0] bx) = some (.ret (I 2) (some ⟨bx.set l c,l,false⟩)) := by
 simp only [go_sem,seval,hl,h1,h2]
theorem fstep_3 (hl : l < bx.length) (h1 : ev cfg (.call 62 [.ptr l 0] bx) = Rq (B false)) (h2 : ev cfg (.call 63 [.ptr l 0] bx) = Rq (B false)) (h3 : ev cfg (.call 64 [.ptr l 0] bx) = some (.ret (B true) (some ⟨bx.set l c,l,false⟩))) :
  Jq (.call 28 [.ptr l 0] bx) = some (.ret (I 3) (some ⟨bx.set l c,l,false⟩)) := by
 simp only [go_sem,seval,hl,h1,h2,h3]
theorem fstep_0 (hl : l < bx.length) (h1 : ev cfg (.call 62 [.ptr l 0] bx) = Rq (B false)) (h2 : ev cfg (.call 63 [.ptr l 0] bx) = Rq (B false)) (h3 : ev cfg (.call 64 [.ptr l 0] bx) = Rq (B false)) :
  Jq (.call 28 [.ptr l 0] bx) = Rq (I 0) := by
 simp only [go_sem,seval,hl,h1,h2,h3]
end
section
variable {bx : List Box} {N F : D} {c c2 z0 z1 z2 z3 z4 : Box} {k e : Int}
theorem fFold_go (y0 : z0.all (cellLt (bx.length + 6)) = true) (y1 : z1.all (cellLt (bx.length + 6)) = true) (y2 : z2.all (cellLt (bx.length + 6)) = true) (y3 : z3.all (cellLt (bx.length + 6)) = true) (y4 : z4.all (cellLt (bx.length + 6)) = true) (yc : c.all (cellLt (bx.length + 6)) = true) (yd : c2.all (cellLt (bx.length + 6)) = true) (hs : ev cfg (.call 28 [P5 bx] (bx ++ [z0,z1,z2,z3,z4,c])) = some (.ret (I k) (some ⟨bx ++ [z0,z1,z2,z3,z4,c2],bx.length + 5,false⟩))) (hk : (k != 0) = true) :
  Jq (.loop 9 5 (qs bx (sh9_5 (P1 bx) (P5 bx)) [z0,z1,z2,z3,z4,c])) = ev cfg (.loop 9 5 (qs bx (sh9_5 (P1 bx) (P5 bx)) [z0,z1,z2,z3,z4,c2])) := by
 simp only [go_sem,seval,hs,hk,y0,y1,y2,y3,y4,yc,yd]
theorem fFold_stop (y0 : z0.all (cellLt (bx.length + 6)) = true) (y1 : z1.all (cellLt (bx.length + 6)) = true) (y2 : z2.all (cellLt (bx.length + 6)) = true) (y3 : z3.all (cellLt (bx.length + 6)) = true) (y4 : z4.all (cellLt (bx.length + 6)) = true) (yc : c.all (cellLt (bx.length + 6)) = true) (hs : ev cfg (.call 28 [P5 bx] (bx ++ [z0,z1,z2,z3,z4,c])) = Rq (I 0)) :
  Jq (.loop 9 5 (qs bx (sh9_5 (P1 bx) (P5 bx)) [z0,z1,z2,z3,z4,c])) = some (.loop (.exit 0) (qs bx (se9_5 (P1 bx) (P5 bx)) [z0,z1,z2,z3,z4,c])) := by
 have e0 : ((0 : Int) != 0) = false := rfl
 simp only [go_sem,seval,hs,e0,y0,y1,y2,y3,y4,yc]
theorem fFold_err (hN : Oq N) (hF : Oq F) (hb : ∀ r0 r1 : Box,ev cfg (.call 11 [Nq N F] (bx ++ [r0,r1])) = Rq (.tup [Wq 0 0 0 .nil .nil,I e])) (he : (e != 0) = true) :
  Jq (.call 9 [Nq N F] bx) = Rq (.tup [Wq 0 0 0 .nil .nil,I e]) := by
 simp only [go_sem,seval,hN,hF,hb,he]
end
section
variable {bx : List Box} {c : Box} {lr rs : List (List D)} {K L : D} {i q : Nat} {kd nd ar k f t : Int}
theorem xins_round0 {q : Int} (hL : IsS 3 lr L) (hc : c.all (cellLt (bx.length + 1)) = true) (hget : lr[i]? = some [dI f,dI t,dI k]) (hlt : i < lr.length) (hmax : lr.length < 9223372036854775808) :
  Jq (.loop 56 3 (qs bx (sh56_3 (I q) (.dat .nil) (.dat L) (I lr.length) (I i)) [c])) =
   ev cfg (.loop 56 3 (qs bx (sh56_3 (I q) ((if (t == q) = true then .own true 1 [[dI i]] else .dat .nil)) (.dat L) (I lr.length) (I ((i + 1 : Nat) : Int))) [c])) := by
 obtain ⟨w,h1,h2,h3⟩ := hL
 obtain rfl := isS_w h2 hget
 cases c0 : (t == q) <;> simp only [go_sem,seval,h1,h3,hc,nat_lt hlt,nat_neg,tnc,hget,nat_succ hlt hmax,c0]
theorem xins_round1 {q : Int} (hL : IsS 3 lr L) (hc : c.all (cellLt (bx.length + 1)) = true) (hget : lr[i]? = some [dI f,dI t,dI k]) (hlt : i < lr.length) (hmax : lr.length < 9223372036854775808) (hks : (rs.length + 1) * 8 <= 140737488355328) :
  Jq (.loop 56 3 (qs bx (sh56_3 (I q) (.own true 1 rs) (.dat L) (I lr.length) (I i)) [c])) =
   ev cfg (.loop 56 3 (qs bx (sh56_3 (I q) ((.own true 1 (if (t == q) = true then rs ++ [[dI i]] else rs))) (.dat L) (I lr.length) (I ((i + 1 : Nat) : Int))) [c])) := by
 obtain ⟨w,h1,h2,h3⟩ := hL
 obtain rfl := isS_w h2 hget
 cases c0 : (t == q) <;> simp only [go_sem,seval,h1,h3,hc,nat_lt hlt,nat_neg,tnc,hget,nat_succ hlt hmax,c0,hks]
theorem xins_end {q : Int} {m : Nat} (hL : Oq L) (hc : c.all (cellLt (bx.length + 1)) = true) (hge : m <= i) :
  Jq (.loop 56 3 (qs bx (sh56_3 (I q) (mkS 1 rs) (.dat L) (I m) (I i)) [c])) = some (.loop (.exit 0) (qs bx (se56_3 (mkS 1 rs)) [c])) := by
 cases rs <;> simp only [go_sem,seval,mkS,hL,nat_ge hge,hc]
theorem xins_f {q : Int} (hK : Oq K) (hL : IsS 3 lr L)
  (hloop : ∀ c : Box,c.all (cellLt (bx.length + 1)) = true -> ev cfg (.loop 56 3 (qs bx (sh56_3 (I q) (.dat .nil) (.dat L) (I lr.length) (I 0)) [c])) = some (.loop (.exit 0) (qs bx (se56_3 (mkS 1 rs)) [c]))) :
  Jq (.call 56 [Wq kd nd ar K L,I q] bx) = Rq (mkS 1 rs) := by
 obtain ⟨w,h1,h2,h3⟩ := hL
 have hloop' := hloop (Wx kd nd ar K L) (by simp [cellLt])
 cases rs <;> simp only [mkS] at hloop' <;> simp only [go_sem,seval,mkS,h1,h3,hK,hloop']
theorem xouts_round0 {q : Int} (hL : IsS 3 lr L) (hc : c.all (cellLt (bx.length + 1)) = true) (hget : lr[i]? = some [dI f,dI t,dI k]) (hlt : i < lr.length) (hmax : lr.length < 9223372036854775808) :
  Jq (.loop 57 3 (qs bx (sh57_3 (I q) (.dat .nil) (.dat L) (I lr.length) (I i)) [c])) =
   ev cfg (.loop 57 3 (qs bx (sh57_3 (I q) ((if (f == q) = true then .own true 1 [[dI i]] else .dat .nil)) (.dat L) (I lr.length) (I ((i + 1 : Nat) : Int))) [c])) := by
 obtain ⟨w,h1,h2,h3⟩ := hL
 obtain rfl := isS_w h2 hget
 cases c0 : (f == q) <;> simp only [go_sem,seval,h1,h3,hc,nat_lt hlt,nat_neg,tnc,hget,nat_succ hlt hmax,c0]
theorem xouts_round1 {q : Int} (hL : IsS 3 lr L) (hc : c.all (cellLt (bx.length + 1)) = true) (hget : lr[i]? = some [dI f,dI t,dI k]) (hlt : i < lr.length) (hmax : lr.length < 9223372036854775808) (hks : (rs.length + 1) * 8 <= 140737488355328) :
  Jq (.loop 57 3 (qs bx (sh57_3 (I q) (.own true 1 rs) (.dat L) (I lr.length) (I i)) [c])) =
   ev cfg (.loop 57 3 (qs bx (sh57_3 (I q) ((.own true 1 (if (f == q) = true then rs ++ [[dI i]] else rs))) (.dat L) (I lr.length) (I ((i + 1 : Nat) : Int))) [c])) := by
 obtain ⟨w,h1,h2,h3⟩ := hL
 obtain rfl := isS_w h2 hget
 cases c0 : (f == q) <;> simp only [go_sem,seval,h1,h3,hc,nat_lt hlt,nat_neg,tnc,hget,nat_succ hlt hmax,c0,hks]
theorem xouts_end {q : Int} {m : Nat} (hL : Oq L) (hc : c.all (cellLt (bx.length + 1)) = true) (hge : m <= i) :
  Jq (.loop 57 3 (qs bx (sh57_3 (I q) (mkS 1 rs) (.dat L) (I m) (I i)) [c])) = some (.loop (.exit 0) (qs bx (se57_3 (mkS 1 rs)) [c])) := by
 cases rs <;> simp only [go_sem,seval,mkS,hL,nat_ge hge,hc]
theorem xouts_f {q : Int} (hK : Oq K) (hL : IsS 3 lr L)
  (hloop : ∀ c : Box,c.all (cellLt (bx.length + 1)) = true -> ev cfg (.loop 57 3 (qs bx (sh57_3 (I q) (.dat .nil) (.dat L) (I lr.length) (I 0)) [c])) = some (.loop (.exit 0) (qs bx (se57_3 (mkS 1 rs)) [c]))) :
  Jq (.call 57 [Wq kd nd ar K L,I q] bx) = Rq (mkS 1 rs) := by
 obtain ⟨w,h1,h2,h3⟩ := hL
 have hloop' := hloop (Wx kd nd ar K L) (by simp [cellLt])
 cases rs <;> simp only [mkS] at hloop' <;> simp only [go_sem,seval,mkS,h1,h3,hK,hloop']
end
end Go.Proofs.YtifckjhggamefaaGreatDoor
