/- Rounds of the folder's closed: over the ways. No condition. -/
import Derived.Test.YtifckjhggamefaaGreatDoorPb
set_option linter.unusedSimpArgs false
set_option linter.unusedVariables false
set_option linter.unusedSectionVars false
namespace Go.Proofs.YtifckjhggamefaaGreatDoor
open Go Go.Vx
set_option maxHeartbeats 4000000
set_option maxRecDepth 10000
section
variable {bx : List Box} {ws cs gs ks ps : List (List D)} {w0 : List D} {K L QK QL : D} {i l : Nat} {k n a q s to b_ la qk qn qa kd jj : Int} {v : Bool}
theorem fclosed_i000 (hl : l < bx.length) (hget : ws[i]? = some [dI to,dI b_,dI la]) (hlt : i < ws.length) (hmax : ws.length < 9223372036854775808) (hb2 : decide (b_ >= 0) = false) (hkd : (kd == 6) = false) (hQK : Oq QK) (hQL : Oq QL) (hcs : (cs.length + 1) * 8 <= 140737488355328) (hp : ∀ r1 r2 : Box,ev cfg (.call 97 [.ptr l 0,Aq to b_ la] (bx ++ [r1,r2])) = Rq (Wq qk qn qa QK QL)) :
  Jq (.loop 63 15 (qs bx (sh63_15 (.ptr l 0) (I s) (I kd) (I jj) (P0 bx) (.own true 1 gs) (.own true 1 cs) (.own v 3 ws) (I ws.length) (I i)) [Wx kd n 0 .nil .nil])) =
   ev cfg (.loop 63 15 (qs bx (sh63_15 (.ptr l 0) (I s) (I kd) (I jj) (P0 bx) (.own true 1 gs) (.own true 1 (cs ++ [[dI la]])) (.own v 3 ws) (I ws.length) (I ((i + 1 : Nat) : Int))) [[I kd,I n,I 0,.own true 5 [[dI qk,dI qn,dI qa,QK,QL]],.dat .nil]])) := by
 simp only [go_sem,seval,hl,nat_lt hlt,nat_neg,tnc,hget,hlt,hb2,hkd,hQK,hQL,hcs,hp,nat_succ hlt hmax]
theorem fclosed_i001 (hl : l < bx.length) (hget : ws[i]? = some [dI to,dI b_,dI la]) (hlt : i < ws.length) (hmax : ws.length < 9223372036854775808) (hb2 : decide (b_ >= 0) = true) (hkd : (kd == 6) = false) (hQK : Oq QK) (hQL : Oq QL) (hcs : (cs.length + 1) * 8 <= 140737488355328) (hgs : (gs.length + 1) * 8 <= 140737488355328) (hp : ∀ r1 r2 : Box,ev cfg (.call 97 [.ptr l 0,Aq to b_ la] (bx ++ [r1,r2])) = Rq (Wq qk qn qa QK QL)) :
  Jq (.loop 63 15 (qs bx (sh63_15 (.ptr l 0) (I s) (I kd) (I jj) (P0 bx) (.own true 1 gs) (.own true 1 cs) (.own v 3 ws) (I ws.length) (I i)) [Wx kd n 0 .nil .nil])) =
   ev cfg (.loop 63 15 (qs bx (sh63_15 (.ptr l 0) (I s) (I kd) (I jj) (P0 bx) (.own true 1 (gs ++ [[dI b_]])) (.own true 1 (cs ++ [[dI la]])) (.own v 3 ws) (I ws.length) (I ((i + 1 : Nat) : Int))) [[I kd,I n,I 0,.own true 5 [[dI qk,dI qn,dI qa,QK,QL]],.dat .nil]])) := by
 simp only [go_sem,seval,hl,nat_lt hlt,nat_neg,tnc,hget,hlt,hb2,hkd,hQK,hQL,hcs,hp,nat_succ hlt hmax,hgs]
theorem fclosed_i010 (hl : l < bx.length) (hget : ws[i]? = some [dI to,dI b_,dI la]) (hlt : i < ws.length) (hmax : ws.length < 9223372036854775808) (hb2 : decide (b_ >= 0) = false) (hkd : (kd == 6) = false) (hQK : Oq QK) (hQL : Oq QL) (hcs : (cs.length + 1) * 8 <= 140737488355328) (hks : (ks.length + 1) * 72 <= 140737488355328) (hp : ∀ r1 r2 : Box,ev cfg (.call 97 [.ptr l 0,Aq to b_ la] (bx ++ [r1,r2])) = Rq (Wq qk qn qa QK QL)) :
  Jq (.loop 63 15 (qs bx (sh63_15 (.ptr l 0) (I s) (I kd) (I jj) (P0 bx) (.own true 1 gs) (.own true 1 cs) (.own v 3 ws) (I ws.length) (I i)) [[I kd,I n,I 0,.own true 5 ks,.dat .nil]])) =
   ev cfg (.loop 63 15 (qs bx (sh63_15 (.ptr l 0) (I s) (I kd) (I jj) (P0 bx) (.own true 1 gs) (.own true 1 (cs ++ [[dI la]])) (.own v 3 ws) (I ws.length) (I ((i + 1 : Nat) : Int))) [[I kd,I n,I 0,.own true 5 (ks ++ [[dI qk,dI qn,dI qa,QK,QL]]),.dat .nil]])) := by
 simp only [go_sem,seval,hl,nat_lt hlt,nat_neg,tnc,hget,hlt,hb2,hkd,hQK,hQL,hcs,hp,nat_succ hlt hmax,hks]
theorem fclosed_i011 (hl : l < bx.length) (hget : ws[i]? = some [dI to,dI b_,dI la]) (hlt : i < ws.length) (hmax : ws.length < 9223372036854775808) (hb2 : decide (b_ >= 0) = true) (hkd : (kd == 6) = false) (hQK : Oq QK) (hQL : Oq QL) (hcs : (cs.length + 1) * 8 <= 140737488355328) (hgs : (gs.length + 1) * 8 <= 140737488355328) (hks : (ks.length + 1) * 72 <= 140737488355328) (hp : ∀ r1 r2 : Box,ev cfg (.call 97 [.ptr l 0,Aq to b_ la] (bx ++ [r1,r2])) = Rq (Wq qk qn qa QK QL)) :
  Jq (.loop 63 15 (qs bx (sh63_15 (.ptr l 0) (I s) (I kd) (I jj) (P0 bx) (.own true 1 gs) (.own true 1 cs) (.own v 3 ws) (I ws.length) (I i)) [[I kd,I n,I 0,.own true 5 ks,.dat .nil]])) =
   ev cfg (.loop 63 15 (qs bx (sh63_15 (.ptr l 0) (I s) (I kd) (I jj) (P0 bx) (.own true 1 (gs ++ [[dI b_]])) (.own true 1 (cs ++ [[dI la]])) (.own v 3 ws) (I ws.length) (I ((i + 1 : Nat) : Int))) [[I kd,I n,I 0,.own true 5 (ks ++ [[dI qk,dI qn,dI qa,QK,QL]]),.dat .nil]])) := by
 simp only [go_sem,seval,hl,nat_lt hlt,nat_neg,tnc,hget,hlt,hb2,hkd,hQK,hQL,hcs,hp,nat_succ hlt hmax,hgs,hks]
theorem fclosed_i100 (hl : l < bx.length) (hget : ws[i]? = some [dI to,dI b_,dI la]) (hlt : i < ws.length) (hmax : ws.length < 9223372036854775808) (hb2 : decide (b_ >= 0) = false) (hkd : (kd == 6) = true) (hQK : Oq QK) (hQL : Oq QL) (hcs : (cs.length + 1) * 8 <= 140737488355328) (hK : Oq K) (hL : Oq L) (hp : ∀ r1 r2 : Box,ev cfg (.call 97 [.ptr l 0,Aq to b_ la] (bx ++ [r1,r2])) = Rq (Wq k q a K L)) (hq : Cq 92 [Wq k q a K L] (.dat (.sl 5 (w0 :: ps)))) (hr : Cq 91 [.dat (.sl 5 ps)] (Wq qk qn qa QK QL)) :
  Jq (.loop 63 15 (qs bx (sh63_15 (.ptr l 0) (I s) (I kd) (I jj) (P0 bx) (.own true 1 gs) (.own true 1 cs) (.own v 3 ws) (I ws.length) (I i)) [Wx kd n 0 .nil .nil])) =
   ev cfg (.loop 63 15 (qs bx (sh63_15 (.ptr l 0) (I s) (I kd) (I jj) (P0 bx) (.own true 1 gs) (.own true 1 (cs ++ [[dI la]])) (.own v 3 ws) (I ws.length) (I ((i + 1 : Nat) : Int))) [[I kd,I n,I 0,.own true 5 [[dI qk,dI qn,dI qa,QK,QL]],.dat .nil]])) := by
 have hl1 : ((1 : Int) <= ((ps.length + 1 : Nat) : Int)) = True := by simp; omega
 have hl2 : ((((ps.length + 1 : Nat) : Int)) <= ((ps.length + 1 : Nat) : Int)) = True := by simp
 simp only [go_sem,seval,hl,nat_lt hlt,nat_neg,tnc,hget,hlt,hb2,hkd,hQK,hQL,hcs,hp,nat_succ hlt hmax,hK,hL,hq,hr,hl1,hl2]
theorem fclosed_i101 (hl : l < bx.length) (hget : ws[i]? = some [dI to,dI b_,dI la]) (hlt : i < ws.length) (hmax : ws.length < 9223372036854775808) (hb2 : decide (b_ >= 0) = true) (hkd : (kd == 6) = true) (hQK : Oq QK) (hQL : Oq QL) (hcs : (cs.length + 1) * 8 <= 140737488355328) (hgs : (gs.length + 1) * 8 <= 140737488355328) (hK : Oq K) (hL : Oq L) (hp : ∀ r1 r2 : Box,ev cfg (.call 97 [.ptr l 0,Aq to b_ la] (bx ++ [r1,r2])) = Rq (Wq k q a K L)) (hq : Cq 92 [Wq k q a K L] (.dat (.sl 5 (w0 :: ps)))) (hr : Cq 91 [.dat (.sl 5 ps)] (Wq qk qn qa QK QL)) :
  Jq (.loop 63 15 (qs bx (sh63_15 (.ptr l 0) (I s) (I kd) (I jj) (P0 bx) (.own true 1 gs) (.own true 1 cs) (.own v 3 ws) (I ws.length) (I i)) [Wx kd n 0 .nil .nil])) =
   ev cfg (.loop 63 15 (qs bx (sh63_15 (.ptr l 0) (I s) (I kd) (I jj) (P0 bx) (.own true 1 (gs ++ [[dI b_]])) (.own true 1 (cs ++ [[dI la]])) (.own v 3 ws) (I ws.length) (I ((i + 1 : Nat) : Int))) [[I kd,I n,I 0,.own true 5 [[dI qk,dI qn,dI qa,QK,QL]],.dat .nil]])) := by
 have hl1 : ((1 : Int) <= ((ps.length + 1 : Nat) : Int)) = True := by simp; omega
 have hl2 : ((((ps.length + 1 : Nat) : Int)) <= ((ps.length + 1 : Nat) : Int)) = True := by simp
 simp only [go_sem,seval,hl,nat_lt hlt,nat_neg,tnc,hget,hlt,hb2,hkd,hQK,hQL,hcs,hp,nat_succ hlt hmax,hgs,hK,hL,hq,hr,hl1,hl2]
theorem fclosed_i110 (hl : l < bx.length) (hget : ws[i]? = some [dI to,dI b_,dI la]) (hlt : i < ws.length) (hmax : ws.length < 9223372036854775808) (hb2 : decide (b_ >= 0) = false) (hkd : (kd == 6) = true) (hQK : Oq QK) (hQL : Oq QL) (hcs : (cs.length + 1) * 8 <= 140737488355328) (hks : (ks.length + 1) * 72 <= 140737488355328) (hK : Oq K) (hL : Oq L) (hp : ∀ r1 r2 : Box,ev cfg (.call 97 [.ptr l 0,Aq to b_ la] (bx ++ [r1,r2])) = Rq (Wq k q a K L)) (hq : Cq 92 [Wq k q a K L] (.dat (.sl 5 (w0 :: ps)))) (hr : Cq 91 [.dat (.sl 5 ps)] (Wq qk qn qa QK QL)) :
  Jq (.loop 63 15 (qs bx (sh63_15 (.ptr l 0) (I s) (I kd) (I jj) (P0 bx) (.own true 1 gs) (.own true 1 cs) (.own v 3 ws) (I ws.length) (I i)) [[I kd,I n,I 0,.own true 5 ks,.dat .nil]])) =
   ev cfg (.loop 63 15 (qs bx (sh63_15 (.ptr l 0) (I s) (I kd) (I jj) (P0 bx) (.own true 1 gs) (.own true 1 (cs ++ [[dI la]])) (.own v 3 ws) (I ws.length) (I ((i + 1 : Nat) : Int))) [[I kd,I n,I 0,.own true 5 (ks ++ [[dI qk,dI qn,dI qa,QK,QL]]),.dat .nil]])) := by
 have hl1 : ((1 : Int) <= ((ps.length + 1 : Nat) : Int)) = True := by simp; omega
 have hl2 : ((((ps.length + 1 : Nat) : Int)) <= ((ps.length + 1 : Nat) : Int)) = True := by simp
 simp only [go_sem,seval,hl,nat_lt hlt,nat_neg,tnc,hget,hlt,hb2,hkd,hQK,hQL,hcs,hp,nat_succ hlt hmax,hks,hK,hL,hq,hr,hl1,hl2]
theorem fclosed_i111 (hl : l < bx.length) (hget : ws[i]? = some [dI to,dI b_,dI la]) (hlt : i < ws.length) (hmax : ws.length < 9223372036854775808) (hb2 : decide (b_ >= 0) = true) (hkd : (kd == 6) = true) (hQK : Oq QK) (hQL : Oq QL) (hcs : (cs.length + 1) * 8 <= 140737488355328) (hgs : (gs.length + 1) * 8 <= 140737488355328) (hks : (ks.length + 1) * 72 <= 140737488355328) (hK : Oq K) (hL : Oq L) (hp : ∀ r1 r2 : Box,ev cfg (.call 97 [.ptr l 0,Aq to b_ la] (bx ++ [r1,r2])) = Rq (Wq k q a K L)) (hq : Cq 92 [Wq k q a K L] (.dat (.sl 5 (w0 :: ps)))) (hr : Cq 91 [.dat (.sl 5 ps)] (Wq qk qn qa QK QL)) :
  Jq (.loop 63 15 (qs bx (sh63_15 (.ptr l 0) (I s) (I kd) (I jj) (P0 bx) (.own true 1 gs) (.own true 1 cs) (.own v 3 ws) (I ws.length) (I i)) [[I kd,I n,I 0,.own true 5 ks,.dat .nil]])) =
   ev cfg (.loop 63 15 (qs bx (sh63_15 (.ptr l 0) (I s) (I kd) (I jj) (P0 bx) (.own true 1 (gs ++ [[dI b_]])) (.own true 1 (cs ++ [[dI la]])) (.own v 3 ws) (I ws.length) (I ((i + 1 : Nat) : Int))) [[I kd,I n,I 0,.own true 5 (ks ++ [[dI qk,dI qn,dI qa,QK,QL]]),.dat .nil]])) := by
 have hl1 : ((1 : Int) <= ((ps.length + 1 : Nat) : Int)) = True := by simp; omega
 have hl2 : ((((ps.length + 1 : Nat) : Int)) <= ((ps.length + 1 : Nat) : Int)) = True := by simp
 simp only [go_sem,seval,hl,nat_lt hlt,nat_neg,tnc,hget,hlt,hb2,hkd,hQK,hQL,hcs,hp,nat_succ hlt hmax,hgs,hks,hK,hL,hq,hr,hl1,hl2]
theorem fclosed_iend (hl : l < bx.length) {m : Nat} (hge : m <= i) :
  Jq (.loop 63 15 (qs bx (sh63_15 (.ptr l 0) (I s) (I kd) (I jj) (P0 bx) (.own true 1 gs) (.own true 1 cs) (.own v 3 ws) (I m) (I i)) [[I kd,I n,I 0,mkS 5 ks,.dat .nil]])) = some (.loop (.exit 3) (qs bx (se63_15 (.ptr l 0) (I s) (I jj) (P0 bx) (.own true 1 gs) (.own true 1 cs)) [[I kd,I n,I 0,mkS 5 ks,.dat .nil]])) := by
 cases ks <;> simp only [go_sem,seval,mkS,hl,nat_ge hge]
end
section
variable {bx : List Box} {rows lr ws : List (List D)} {N F : D} {i l : Nat} {jj : Int} {c : Bool}
theorem fclosed_none (hl : l < bx.length) (hb : bx[l]? = some [.dat N,.dat F,.own true 5 rows,.own true 3 lr]) (hlt : i < rows.length) (hmax : rows.length < 9223372036854775808) (h6 : ev cfg (.call 94 [.ptr l 0,I i,I 6,B true] bx) = Rq (B false)) (h5 : ev cfg (.call 94 [.ptr l 0,I i,I 5,B true] bx) = Rq (B false)) (h7 : ev cfg (.call 94 [.ptr l 0,I i,I 7,B true] bx) = Rq (B false)) :
  Jq (.loop 63 2 (q0 bx (sh63_2 (.ptr l 0) (I rows.length) (I i)))) = ev cfg (.loop 63 2 (q0 bx (sh63_2 (.ptr l 0) (I rows.length) (I ((i + 1 : Nat) : Int))))) := by
 simp only [go_sem,seval,hl,hb,nat_lt hlt,nat_neg,tnc,nat_succ hlt hmax,h6,h5,h7]
theorem fclosed_par_no0 (hl : l < bx.length) (hb : bx[l]? = some [.dat N,.dat F,.own true 5 rows,.own true 3 lr]) (hlt : i < rows.length) (hmax : rows.length < 9223372036854775808) (h6 : ev cfg (.call 94 [.ptr l 0,I i,I 6,B true] bx) = Rq (B true)) (hc : ev cfg (.call 95 [.ptr l 0,I i,I 6] bx) = Rq (.tup [I jj,.dat .nil,B false])) :
  Jq (.loop 63 2 (q0 bx (sh63_2 (.ptr l 0) (I rows.length) (I i)))) = ev cfg (.loop 63 2 (q0 bx (sh63_2 (.ptr l 0) (I rows.length) (I ((i + 1 : Nat) : Int))))) := by
 simp only [go_sem,seval,hl,hb,nat_lt hlt,nat_neg,tnc,nat_succ hlt hmax,h6,hc]
theorem fclosed_par_no1 (hl : l < bx.length) (hb : bx[l]? = some [.dat N,.dat F,.own true 5 rows,.own true 3 lr]) (hlt : i < rows.length) (hmax : rows.length < 9223372036854775808) (h6 : ev cfg (.call 94 [.ptr l 0,I i,I 6,B true] bx) = Rq (B true)) (hc : ev cfg (.call 95 [.ptr l 0,I i,I 6] bx) = Rq (.tup [I jj,.own true 3 ws,B false])) :
  Jq (.loop 63 2 (q0 bx (sh63_2 (.ptr l 0) (I rows.length) (I i)))) = ev cfg (.loop 63 2 (q0 bx (sh63_2 (.ptr l 0) (I rows.length) (I ((i + 1 : Nat) : Int))))) := by
 simp only [go_sem,seval,hl,hb,nat_lt hlt,nat_neg,tnc,nat_succ hlt hmax,h6,hc]
theorem fclosed_alt_no0 (hl : l < bx.length) (hb : bx[l]? = some [.dat N,.dat F,.own true 5 rows,.own true 3 lr]) (hlt : i < rows.length) (hmax : rows.length < 9223372036854775808) (h6 : ev cfg (.call 94 [.ptr l 0,I i,I 6,B true] bx) = Rq (B false)) (h5 : ev cfg (.call 94 [.ptr l 0,I i,I 5,B true] bx) = Rq (B true)) (hc : ev cfg (.call 95 [.ptr l 0,I i,I 5] bx) = Rq (.tup [I jj,.dat .nil,B false])) :
  Jq (.loop 63 2 (q0 bx (sh63_2 (.ptr l 0) (I rows.length) (I i)))) = ev cfg (.loop 63 2 (q0 bx (sh63_2 (.ptr l 0) (I rows.length) (I ((i + 1 : Nat) : Int))))) := by
 simp only [go_sem,seval,hl,hb,nat_lt hlt,nat_neg,tnc,nat_succ hlt hmax,h6,h5,hc]
theorem fclosed_alt_no1 (hl : l < bx.length) (hb : bx[l]? = some [.dat N,.dat F,.own true 5 rows,.own true 3 lr]) (hlt : i < rows.length) (hmax : rows.length < 9223372036854775808) (h6 : ev cfg (.call 94 [.ptr l 0,I i,I 6,B true] bx) = Rq (B false)) (h5 : ev cfg (.call 94 [.ptr l 0,I i,I 5,B true] bx) = Rq (B true)) (hc : ev cfg (.call 95 [.ptr l 0,I i,I 5] bx) = Rq (.tup [I jj,.own true 3 ws,B false])) :
  Jq (.loop 63 2 (q0 bx (sh63_2 (.ptr l 0) (I rows.length) (I i)))) = ev cfg (.loop 63 2 (q0 bx (sh63_2 (.ptr l 0) (I rows.length) (I ((i + 1 : Nat) : Int))))) := by
 simp only [go_sem,seval,hl,hb,nat_lt hlt,nat_neg,tnc,nat_succ hlt hmax,h6,h5,hc]
theorem fclosed_pick_no0 (hl : l < bx.length) (hb : bx[l]? = some [.dat N,.dat F,.own true 5 rows,.own true 3 lr]) (hlt : i < rows.length) (hmax : rows.length < 9223372036854775808) (h6 : ev cfg (.call 94 [.ptr l 0,I i,I 6,B true] bx) = Rq (B false)) (h5 : ev cfg (.call 94 [.ptr l 0,I i,I 5,B true] bx) = Rq (B false)) (h7 : ev cfg (.call 94 [.ptr l 0,I i,I 7,B true] bx) = Rq (B true)) (hc : ev cfg (.call 95 [.ptr l 0,I i,I 5] bx) = Rq (.tup [I jj,.dat .nil,B false])) :
  Jq (.loop 63 2 (q0 bx (sh63_2 (.ptr l 0) (I rows.length) (I i)))) = ev cfg (.loop 63 2 (q0 bx (sh63_2 (.ptr l 0) (I rows.length) (I ((i + 1 : Nat) : Int))))) := by
 simp only [go_sem,seval,hl,hb,nat_lt hlt,nat_neg,tnc,nat_succ hlt hmax,h6,h5,h7,hc]
theorem fclosed_pick_no1 (hl : l < bx.length) (hb : bx[l]? = some [.dat N,.dat F,.own true 5 rows,.own true 3 lr]) (hlt : i < rows.length) (hmax : rows.length < 9223372036854775808) (h6 : ev cfg (.call 94 [.ptr l 0,I i,I 6,B true] bx) = Rq (B false)) (h5 : ev cfg (.call 94 [.ptr l 0,I i,I 5,B true] bx) = Rq (B false)) (h7 : ev cfg (.call 94 [.ptr l 0,I i,I 7,B true] bx) = Rq (B true)) (hc : ev cfg (.call 95 [.ptr l 0,I i,I 5] bx) = Rq (.tup [I jj,.own true 3 ws,B false])) :
  Jq (.loop 63 2 (q0 bx (sh63_2 (.ptr l 0) (I rows.length) (I i)))) = ev cfg (.loop 63 2 (q0 bx (sh63_2 (.ptr l 0) (I rows.length) (I ((i + 1 : Nat) : Int))))) := by
 simp only [go_sem,seval,hl,hb,nat_lt hlt,nat_neg,tnc,nat_succ hlt hmax,h6,h5,h7,hc]
theorem fclosed_pick_aw (hl : l < bx.length) (hb : bx[l]? = some [.dat N,.dat F,.own true 5 rows,.own true 3 lr]) (hlt : i < rows.length) (hmax : rows.length < 9223372036854775808) (h6 : ev cfg (.call 94 [.ptr l 0,I i,I 6,B true] bx) = Rq (B false)) (h5 : ev cfg (.call 94 [.ptr l 0,I i,I 5,B true] bx) = Rq (B false)) (h7 : ev cfg (.call 94 [.ptr l 0,I i,I 7,B true] bx) = Rq (B true)) (hc : ev cfg (.call 95 [.ptr l 0,I i,I 5] bx) = Rq (.tup [I jj,.own true 3 ws,B true])) (ha : ev cfg (.call 96 [.ptr l 0,I i,.dat (.sl 3 ws)] bx) = Rq (B false)) :
  Jq (.loop 63 2 (q0 bx (sh63_2 (.ptr l 0) (I rows.length) (I i)))) = ev cfg (.loop 63 2 (q0 bx (sh63_2 (.ptr l 0) (I rows.length) (I ((i + 1 : Nat) : Int))))) := by
 simp only [go_sem,seval,hl,hb,nat_lt hlt,nat_neg,tnc,nat_succ hlt hmax,h6,h5,h7,hc,ha]
theorem fclosed_end {m : Nat} (hl : l < bx.length) (hge : m <= i) :
  Jq (.loop 63 2 (q0 bx (sh63_2 (.ptr l 0) (I m) (I i)))) = some (.loop (.exit 0) (q0 bx (se63_2 .dead))) := by
 simp only [go_sem,seval,hl,nat_ge hge]
theorem fclosed_f (hl : l < bx.length) (hb : bx[l]? = some [.dat N,.dat F,.own true 5 rows,.own true 3 lr])
  (hloop : ev cfg (.loop 63 2 (q0 bx (sh63_2 (.ptr l 0) (I rows.length) (I 0)))) = some (.loop (.exit 0) (q0 bx (se63_2 .dead)))) :
  Jq (.call 63 [.ptr l 0] bx) = Rq (B false) := by
 simp only [go_sem,seval,hl,hb,hloop]
theorem fclosed_t (hl : l < bx.length) (hb : bx[l]? = some [.dat N,.dat F,.own true 5 rows,.own true 3 lr]) {c : Box}
  (hloop : ev cfg (.loop 63 2 (q0 bx (sh63_2 (.ptr l 0) (I rows.length) (I 0)))) = some (.loop .ret ⟨(se63_2 (B true)),bx.set l c,bx.length,some l,false⟩)) :
  Jq (.call 63 [.ptr l 0] bx) = some (.ret (B true) (some ⟨bx.set l c,l,false⟩)) := by
 simp only [go_sem,seval,hl,hb,hloop]
end
section
variable {bx : List Box} {rows lr os ws cs gs ks ks2 ls2 os2 : List (List D)} {w0 : List D} {N F K L : D} {i l o2 : Nat} {k n a f2 t2 w2 jj : Int}
theorem fclosed_par (hl : l < bx.length) (hb : bx[l]? = some [.dat N,.dat F,.own true 5 rows,.own true 3 lr]) (hlt : i < rows.length) (hmax : rows.length < 9223372036854775808) (h6 : ev cfg (.call 94 [.ptr l 0,I i,I 6,B true] bx) = Rq (B true)) (hc : ev cfg (.call 95 [.ptr l 0,I i,I 6] bx) = Rq (.tup [I jj,.own true 3 ws,B true])) (hra : rows[i]? = some [dI k,dI n,dI a,K,L])
  (ho : ∀ r : Box,ev cfg (.call 84 [.ptr l 0,I i] (bx ++ [r])) = Rq (.own true 1 os))
  (hin : ev cfg (.loop 63 15 (qs bx (sh63_15 (.ptr l 0) (I i) (I 4) (I jj) (P0 bx) (.own true 1 [[dI jj]]) (.own true 1 os) (.own true 3 ws) (I ws.length) (I 0)) [Wx 4 n 0 .nil .nil])) = some (.loop (.exit 3) (qs bx (se63_15 (.ptr l 0) (I i) (I jj) (P0 bx) (.own true 1 gs) (.own true 1 cs)) [[I 4,I n,I 0,.own true 5 (w0 :: ks),.dat .nil]])))
  (ho2 : ∀ r : Box,ev cfg (.call 84 [.ptr l 0,I jj] (bx.set l [.dat N,.dat F,.own true 5 (rows.set i [dI 4,dI n,dI 0,.sl 5 (w0 :: ks),.nil]),.own true 3 lr] ++ [r])) = Rq (.own true 1 ([dI o2] :: os2))) (hget2 : lr[o2]? = some [dI f2,dI t2,dI w2])
  (hdr : ∀ r : Box,ev cfg (.call 93 [.ptr l 0,.dat (.sl 1 gs),.dat (.sl 1 cs)] (bx.set l [.dat N,.dat F,.own true 5 (rows.set i [dI 4,dI n,dI 0,.sl 5 (w0 :: ks),.nil]),.own true 3 (lr.set o2 [dI (i : Nat),dI t2,dI w2])] ++ [r])) = some (.ret (.tup []) (some ⟨bx.set l [.dat N,.dat F,mkS 5 ks2,mkS 3 ls2] ++ [r],l,false⟩))) :
  Jq (.loop 63 2 (q0 bx (sh63_2 (.ptr l 0) (I rows.length) (I i)))) = some (.loop .ret ⟨(se63_2 (B true)),bx.set l [.dat N,.dat F,mkS 5 ks2,mkS 3 ls2],bx.length,some l,false⟩) := by
 have hlo2 : o2 < lr.length := (gsi.1 hget2).1
 have hz2 : 0 < os2.length + 1 := by omega
 simp (maxSteps := 2000000) only [go_sem,seval,hl,hb,nat_lt hlt,nat_neg,tnc,nat_succ hlt hmax,h6,hc,hra,hlt,ho,hin,ho2,hz2,hget2,hlo2,hdr,isCellIn,gss hl,lls]
end
section
variable {bx : List Box} {rows lr os ws cs gs ks ks2 ls2 os2 : List (List D)} {w0 : List D} {N F K L : D} {i l o2 : Nat} {k n a f2 t2 w2 jj : Int}
theorem fclosed_alt (hl : l < bx.length) (hb : bx[l]? = some [.dat N,.dat F,.own true 5 rows,.own true 3 lr]) (hlt : i < rows.length) (hmax : rows.length < 9223372036854775808) (h6 : ev cfg (.call 94 [.ptr l 0,I i,I 6,B true] bx) = Rq (B false)) (h5 : ev cfg (.call 94 [.ptr l 0,I i,I 5,B true] bx) = Rq (B true)) (hc : ev cfg (.call 95 [.ptr l 0,I i,I 5] bx) = Rq (.tup [I jj,.own true 3 ws,B true])) (hra : rows[i]? = some [dI k,dI n,dI a,K,L])
  (ho : ∀ r : Box,ev cfg (.call 84 [.ptr l 0,I i] (bx ++ [r])) = Rq (.own true 1 os))
  (hin : ev cfg (.loop 63 15 (qs bx (sh63_15 (.ptr l 0) (I i) (I 5) (I jj) (P0 bx) (.own true 1 [[dI jj]]) (.own true 1 os) (.own true 3 ws) (I ws.length) (I 0)) [Wx 5 n 0 .nil .nil])) = some (.loop (.exit 3) (qs bx (se63_15 (.ptr l 0) (I i) (I jj) (P0 bx) (.own true 1 gs) (.own true 1 cs)) [[I 5,I n,I 0,.own true 5 (w0 :: ks),.dat .nil]])))
  (ho2 : ∀ r : Box,ev cfg (.call 84 [.ptr l 0,I jj] (bx.set l [.dat N,.dat F,.own true 5 (rows.set i [dI 5,dI n,dI 0,.sl 5 (w0 :: ks),.nil]),.own true 3 lr] ++ [r])) = Rq (.own true 1 ([dI o2] :: os2))) (hget2 : lr[o2]? = some [dI f2,dI t2,dI w2])
  (hdr : ∀ r : Box,ev cfg (.call 93 [.ptr l 0,.dat (.sl 1 gs),.dat (.sl 1 cs)] (bx.set l [.dat N,.dat F,.own true 5 (rows.set i [dI 5,dI n,dI 0,.sl 5 (w0 :: ks),.nil]),.own true 3 (lr.set o2 [dI (i : Nat),dI t2,dI w2])] ++ [r])) = some (.ret (.tup []) (some ⟨bx.set l [.dat N,.dat F,mkS 5 ks2,mkS 3 ls2] ++ [r],l,false⟩))) :
  Jq (.loop 63 2 (q0 bx (sh63_2 (.ptr l 0) (I rows.length) (I i)))) = some (.loop .ret ⟨(se63_2 (B true)),bx.set l [.dat N,.dat F,mkS 5 ks2,mkS 3 ls2],bx.length,some l,false⟩) := by
 have hlo2 : o2 < lr.length := (gsi.1 hget2).1
 have hz2 : 0 < os2.length + 1 := by omega
 simp (maxSteps := 2000000) only [go_sem,seval,hl,hb,nat_lt hlt,nat_neg,tnc,nat_succ hlt hmax,h6,h5,hc,hra,hlt,ho,hin,ho2,hz2,hget2,hlo2,hdr,isCellIn,gss hl,lls]
end
section
variable {bx : List Box} {rows lr os ws cs gs ks ks2 ls2 os2 : List (List D)} {w0 : List D} {N F K L : D} {i l o2 : Nat} {k n a f2 t2 w2 jj : Int}
theorem fclosed_pick (hl : l < bx.length) (hb : bx[l]? = some [.dat N,.dat F,.own true 5 rows,.own true 3 lr]) (hlt : i < rows.length) (hmax : rows.length < 9223372036854775808) (h6 : ev cfg (.call 94 [.ptr l 0,I i,I 6,B true] bx) = Rq (B false)) (h5 : ev cfg (.call 94 [.ptr l 0,I i,I 5,B true] bx) = Rq (B false)) (h7 : ev cfg (.call 94 [.ptr l 0,I i,I 7,B true] bx) = Rq (B true)) (hc : ev cfg (.call 95 [.ptr l 0,I i,I 5] bx) = Rq (.tup [I jj,.own true 3 ws,B true])) (ha : ev cfg (.call 96 [.ptr l 0,I i,.dat (.sl 3 ws)] bx) = Rq (B true)) (hra : rows[i]? = some [dI k,dI n,dI a,K,L])
  (ho : ∀ r : Box,ev cfg (.call 84 [.ptr l 0,I i] (bx ++ [r])) = Rq (.own true 1 os))
  (hin : ev cfg (.loop 63 15 (qs bx (sh63_15 (.ptr l 0) (I i) (I 6) (I jj) (P0 bx) (.own true 1 [[dI jj]]) (.own true 1 os) (.own false 3 ws) (I ws.length) (I 0)) [Wx 6 n 0 .nil .nil])) = some (.loop (.exit 3) (qs bx (se63_15 (.ptr l 0) (I i) (I jj) (P0 bx) (.own true 1 gs) (.own true 1 cs)) [[I 6,I n,I 0,.own true 5 (w0 :: ks),.dat .nil]])))
  (ho2 : ∀ r : Box,ev cfg (.call 84 [.ptr l 0,I jj] (bx.set l [.dat N,.dat F,.own true 5 (rows.set i [dI 6,dI n,dI 0,.sl 5 (w0 :: ks),.nil]),.own true 3 lr] ++ [r])) = Rq (.own true 1 ([dI o2] :: os2))) (hget2 : lr[o2]? = some [dI f2,dI t2,dI w2])
  (hdr : ∀ r : Box,ev cfg (.call 93 [.ptr l 0,.dat (.sl 1 gs),.dat (.sl 1 cs)] (bx.set l [.dat N,.dat F,.own true 5 (rows.set i [dI 6,dI n,dI 0,.sl 5 (w0 :: ks),.nil]),.own true 3 (lr.set o2 [dI (i : Nat),dI t2,dI w2])] ++ [r])) = some (.ret (.tup []) (some ⟨bx.set l [.dat N,.dat F,mkS 5 ks2,mkS 3 ls2] ++ [r],l,false⟩))) :
  Jq (.loop 63 2 (q0 bx (sh63_2 (.ptr l 0) (I rows.length) (I i)))) = some (.loop .ret ⟨(se63_2 (B true)),bx.set l [.dat N,.dat F,mkS 5 ks2,mkS 3 ls2],bx.length,some l,false⟩) := by
 have hlo2 : o2 < lr.length := (gsi.1 hget2).1
 have hz2 : 0 < os2.length + 1 := by omega
 simp (maxSteps := 2000000) only [go_sem,seval,hl,hb,nat_lt hlt,nat_neg,tnc,nat_succ hlt hmax,h6,h5,h7,hc,ha,hra,hlt,ho,hin,ho2,hz2,hget2,hlo2,hdr,isCellIn,gss hl,lls]
end
end Go.Proofs.YtifckjhggamefaaGreatDoor
