/- What the blocks' functions answer: size, wrong, bad, digits. No condition. -/
import Derived.Test.YtifckjhggamefaaGreatDoorHl
set_option linter.unusedSimpArgs false
set_option linter.unusedVariables false
set_option linter.unusedSectionVars false
namespace Go.Proofs.YtifckjhggamefaaGreatDoor
open Go Go.Vx
set_option maxRecDepth 10000
def stS (_ : Blk) (n : Int) : Int := IntKind.wrap .i64 (n + 1)
theorem each_size : ∀ (b : Blk) (n : Int),0 <= n -> n + sizeB b <= 1000000000 -> eachB stS b n = n + sizeB b
 | .mk k n a ks ls,x,h,h2 => by
  rw [sizeB] at h2 ⊢
  have := sizeB_pos.go ks
  rw [eachB,stS,wrap_lo (by omega) (by omega),go ks (x + 1) (by omega) (by omega)]
  omega
where
 go : ∀ (bs : List Blk) (n : Int),0 <= n -> n + sizeB.go bs <= 1000000000 -> eachB.go stS bs n = n + sizeB.go bs
 | [],n,_,_ => by rw [eachB.go,sizeB.go,Int.add_zero]
 | b :: bs,n,h,h2 => by
  rw [sizeB.go] at h2 ⊢
  have := sizeB_pos b
  have := sizeB_pos.go bs
  rw [eachB.go,each_size b n h (by omega),go bs (n + sizeB b) (by omega) (by omega)]
  omega
theorem size_ev (b : Blk) {k n a : Int} {K L : D} (h : IsB b k n a K L) (hz : sizeB b <= 1000000) (bx : List Box) : ev cfg (.call 72 [Wq k n a K L] bx) = Rq (I (sizeB b)) := by
 obtain ⟨⟨_,hK⟩,_,hL⟩ := isB_K h
 refine es (f15 hK hL fun c => ?_)
 have := each_ev (fun n : Int => [I n]) stS 118 (bx.length + 1) (fun b k n a K L x bx' hb hx => by
  obtain ⟨⟨_,hK⟩,_,hL⟩ := isB_K hb
  exact es (f40 hK hL (gsi.1 hx).1 hx)) b (x := 0) (bx := bx ++ [c,[I 0]]) h (by rw [app_get]; rfl)
 rw [this,each_size b 0 (by omega) (by omega),app_set]
 simp
set_option maxHeartbeats 8000000
section
variable {bx : List Box} {z : Box} {nr fr : List (List D)} {N F K : D} {i p q l m : Nat} {op n : Int} {e v : Bool} {o : List Bool}
def rboolR (o : List Bool) : List (List D) := o.map fun b => [D.lit (.bool b)]
theorem rbool_get {o : List Bool} {i : Nat} {b : Bool} (h : o[i]? = some b) : (rboolR o)[i]? = some [.lit (.bool b)] := by simp [rboolR,h]
theorem rbool_len (o : List Bool) : (rboolR o).length = o.length := by simp [rboolR]
theorem rbool_set (o : List Bool) (i : Nat) (b : Bool) : (rboolR o).set i [.lit (.bool b)] = rboolR (o.set i b) := by simp [rboolR,List.map_set]
theorem rreach_in (hF : IsS 6 fr F) (hN : Oq N) (hget : fr[i]? = some [dI p,dI q,.lit (.bool e),dI op,dI n,K]) (hlt : i < fr.length) (hmax : fr.length < 9223372036854775808) (hk : Oq K) (hp : o[p]? = some v) (hq : q < o.length) :
  Jq (.loop 41 6 (qs bx (sh41_6 (P0 bx) (.own true 1 (rboolR o)) (I m) (I l) (.dat F) (I fr.length) (I i)) [Nb N F])) =
   ev cfg (.loop 41 6 (qs bx (sh41_6 (P0 bx) (.own true 1 (rboolR (if v = true then o.set q true else o))) (I m) (I l) (.dat F) (I fr.length) (I ((i + 1 : Nat) : Int))) [Nb N F])) := by
 obtain ⟨w,h1,h2,h3⟩ := hF
 obtain rfl := isS_w h2 hget
 have hp' := rbool_get hp
 have l1 : p < (rboolR o).length := (gsi.1 hp').1
 have l2 : q < (rboolR o).length := by rw [rbool_len]; exact hq
 obtain ⟨b,hb⟩ : ∃ b,(rboolR o)[q]? = some [.lit (.bool b)] := by
  have : o[q]? = some o[q] := gge hq
  exact ⟨_,rbool_get this⟩
 cases v <;> simp (maxSteps := 2000000) only [go_sem,seval,h1,h3,hN,hk,nat_lt hlt,nat_neg,tnc,hget,hp',hb,l1,l2,rbool_set,nat_succ hlt hmax]
theorem rreach_inend {k : Nat} (hF : Oq F) (hN : Oq N) (hge : k <= i) :
  Jq (.loop 41 6 (qs bx (sh41_6 (P0 bx) (.own true 1 (rboolR o)) (I m) (I l) (.dat F) (I k) (I i)) [Nb N F])) =
   some (.loop (.exit 2) (qs bx (se41_6 (P0 bx) (.own true 1 (rboolR o)) (I m) (I l)) [Nb N F])) := by
 simp (maxSteps := 2000000) only [go_sem,seval,hF,hN,nat_ge hge]
theorem rreach_out {o2 : List Bool} (hF : IsS 6 fr F) (hN : Oq N) (hlt : l < m) (hmax : m < 9223372036854775808)
  (hin : ev cfg (.loop 41 6 (qs bx (sh41_6 (P0 bx) (.own true 1 (rboolR o)) (I m) (I l) (.dat F) (I fr.length) (I 0)) [Nb N F])) =
   some (.loop (.exit 2) (qs bx (se41_6 (P0 bx) (.own true 1 (rboolR o2)) (I m) (I l)) [Nb N F]))) :
  Jq (.loop 41 4 (qs bx (sh41_4 (P0 bx) (.own true 1 (rboolR o)) (I m) (I l)) [Nb N F])) =
   ev cfg (.loop 41 4 (qs bx (sh41_4 (P0 bx) (.own true 1 (rboolR o2)) (I m) (I ((l + 1 : Nat) : Int))) [Nb N F])) := by
 obtain ⟨w,h1,h2,h3⟩ := hF
 simp (maxSteps := 2000000) only [go_sem,seval,h1,h3,hN,nat_lt hlt,hin,nat_succ hlt hmax]
theorem rreach_outend (hF : Oq F) (hN : Oq N) (hge : m <= l) :
  Jq (.loop 41 4 (qs bx (sh41_4 (P0 bx) (.own true 1 (rboolR o)) (I m) (I l)) [Nb N F])) =
   some (.loop (.exit 0) (qs bx (se41_4 (.own true 1 (rboolR o))) [Nb N F])) := by
 simp (maxSteps := 2000000) only [go_sem,seval,hF,hN,nat_ge hge]
theorem rreach_f {o2 : List Bool} (hF : Oq F) (hN : IsS 5 nr N) (hp : p < nr.length) (hs : nr.length * 1 <= 140737488355328) (hb : (List.replicate nr.length [D.lit (.bool false)])[p]? = some [.lit (.bool false)]) (he : (List.replicate nr.length [D.lit (.bool false)]).set p [.lit (.bool true)] = rboolR o)
  (hloop : ev cfg (.loop 41 4 (qs bx (sh41_4 (P0 bx) (.own true 1 (rboolR o)) (I nr.length) (I 0)) [Nb N F])) =
   some (.loop (.exit 0) (qs bx (se41_4 (.own true 1 (rboolR o2))) [Nb N F]))) :
  Jq (.call 41 [Nq N F,I p] bx) = Rq (.own true 1 (rboolR o2)) := by
 obtain ⟨w,h1,h2,h3⟩ := hN
 have z : (0 : Int) <= (nr.length : Int) := by omega
 have lr : p < (List.replicate nr.length [D.lit (.bool false)]).length := by simpa using hp
 have hs' : nr.length <= 140737488355328 := by omega
 simp (maxSteps := 2000000) only [go_sem,seval,h1,h3,hF,hs,hs',z,hb,lr,hp,List.length_replicate,Nat.mul_one,nat_neg,tnc,he,hloop]
end
def okB : Blk -> Prop
 | .mk _ _ _ ks ls => ks.length <= 200 /\ ls.length <= 100 /\ go ks
where
 go : List Blk -> Prop
 | [] => True
 | b :: bs => okB b /\ go bs
section
variable {bx : List Box} {nr fr : List (List D)} {N F K : D} {i : Nat} {k a op n f t : Int} {e v : Bool}
theorem rc4 (hN : IsS 5 nr N) (hF : Oq F) (hget : nr[i]? = some [dI k,dI a,dI op,dI n,K]) (hlt : i < nr.length) (hmax : nr.length < 9223372036854775808) (hk : Oq K) (hcall : Cq 37 [.agg [I k,I a,I op,I n,.dat K]] (B v)) :
  Jq (.loop 18 4 (qs bx (sh18_4 (P0 bx) (P1 bx) (.dat N) (I nr.length) (I i)) [Nb N F,[I 0,I 0]])) =
   if (!v) = true then some (.loop .ret (qs bx (se18_4 (P0 bx) (P1 bx)) [Nb N F,[I 1,I i]])) else ev cfg (.loop 18 4 (qs bx (sh18_4 (P0 bx) (P1 bx) (.dat N) (I nr.length) (I ((i + 1 : Nat) : Int))) [Nb N F,[I 0,I 0]])) := by
 obtain ⟨w,h1,h2,h3⟩ := hN
 obtain rfl := isS_w h2 hget
 cases v <;> simp (maxSteps := 2000000) only [go_sem,seval,nat_neg,tnc,h1,h3,hF,hk,nat_lt hlt,hget,hcall,nat_succ hlt hmax]
theorem rc4e (hN : Oq N) (hF : Oq F) {m : Nat} (hge : m <= i) :
  Jq (.loop 18 4 (qs bx (sh18_4 (P0 bx) (P1 bx) (.dat N) (I m) (I i)) [Nb N F,[I 0,I 0]])) = some (.loop (.exit 0) (qs bx (se18_4 (P0 bx) (P1 bx)) [Nb N F,[I 0,I 0]])) := by
 simp (maxSteps := 2000000) only [go_sem,seval,nat_ge hge,hN,hF]
theorem rc10 (hN : Oq N) (hF : IsS 6 fr F) (hget : fr[i]? = some [dI f,dI t,.lit (.bool e),dI op,dI n,K]) (hlt : i < fr.length) (hmax : fr.length < 9223372036854775808) (hk : Oq K) (hcall : Cq 38 [Nq N F,.agg [I f,I t,B e,I op,I n,.dat K]] (B v)) :
  Jq (.loop 18 10 (qs bx (sh18_10 (P0 bx) (P1 bx) (.dat F) (I fr.length) (I i)) [Nb N F,[I 0,I 0]])) =
   if (!v) = true then some (.loop .ret (qs bx (se18_10 (P0 bx) (P1 bx)) [Nb N F,[I 2,I i]])) else ev cfg (.loop 18 10 (qs bx (sh18_10 (P0 bx) (P1 bx) (.dat F) (I fr.length) (I ((i + 1 : Nat) : Int))) [Nb N F,[I 0,I 0]])) := by
 obtain ⟨w,h1,h2,h3⟩ := hF
 obtain rfl := isS_w h2 hget
 cases v <;> simp (maxSteps := 2000000) only [go_sem,seval,nat_neg,tnc,h1,h3,hN,hk,nat_lt hlt,hget,hcall,nat_succ hlt hmax]
theorem rc10e (hN : Oq N) (hF : Oq F) {m : Nat} (hge : m <= i) :
  Jq (.loop 18 10 (qs bx (sh18_10 (P0 bx) (P1 bx) (.dat F) (I m) (I i)) [Nb N F,[I 0,I 0]])) = some (.loop (.exit 2) (qs bx (se18_10 (P0 bx) (P1 bx)) [Nb N F,[I 0,I 0]])) := by
 simp (maxSteps := 2000000) only [go_sem,seval,nat_ge hge,hN,hF]
end
section
variable {bx : List Box} {nr : List (List D)} {N F K : D} {i p : Nat} {k a op n s z : Int} {v v2 : Bool} {o o2 : List Bool}
theorem rc18 (hN : IsS 5 nr N) (hF : Oq F) (hget : nr[i]? = some [dI k,dI a,dI op,dI n,K]) (hlt : i < nr.length) (hmax : nr.length < 9223372036854775808) (hk : Oq K) (hcall : Cq 40 [Nq N F,I i] (B v)) :
  Jq (.loop 18 18 (qs bx (sh18_18 (P0 bx) (P1 bx) (I s) (I z) (.dat N) (I nr.length) (I i)) [Nb N F,[I 0,I 0]])) =
   if (!v || ((k == 1 && decide ((i : Int) > s)) || (k == 2 && decide ((i : Int) > z)))) = true then some (.loop .ret (qs bx (se18_18 (P0 bx) (P1 bx) (I s) (I z)) [Nb N F,[I 3,I i]])) else ev cfg (.loop 18 18 (qs bx (sh18_18 (P0 bx) (P1 bx) (I s) (I z) (.dat N) (I nr.length) (I ((i + 1 : Nat) : Int))) [Nb N F,[I 0,I 0]])) := by
 obtain ⟨w,h1,h2,h3⟩ := hN
 obtain rfl := isS_w h2 hget
 cases v <;> cases c1 : (k == 1) <;> cases c2 : decide ((i : Int) > s) <;> cases c3 : (k == 2) <;> cases c4 : decide ((i : Int) > z) <;> simp (maxSteps := 2000000) only [go_sem,seval,nat_neg,tnc,h1,h3,hF,hk,nat_lt hlt,hget,hcall,nat_succ hlt hmax,c1,c2,c3,c4]
theorem rc18e (hN : Oq N) (hF : Oq F) {m : Nat} (hge : m <= i) :
  Jq (.loop 18 18 (qs bx (sh18_18 (P0 bx) (P1 bx) (I s) (I z) (.dat N) (I m) (I i)) [Nb N F,[I 0,I 0]])) = some (.loop (.exit 4) (qs bx (se18_18 (P0 bx) (P1 bx) (I s) (I z)) [Nb N F,[I 0,I 0]])) := by
 simp (maxSteps := 2000000) only [go_sem,seval,nat_ge hge,hN,hF]
theorem rc27 (hN : Oq N) (hF : Oq F) (hlt : i < nr.length) (hmax : nr.length < 9223372036854775808) (hz : z = (p : Nat)) (ho : o[i]? = some v) (ho2 : o2[p]? = some v2) (hcall : Cq 41 [Nq N F,I i] (.own true 1 (rboolR o2))) :
  Jq (.loop 18 27 (qs bx (sh18_27 (P0 bx) (P1 bx) (I z) (.own true 1 (rboolR o)) (I nr.length) (I i)) [Nb N F,[I 0,I 0]])) =
   if (!v || !v2) = true then some (.loop .ret (qs bx (se18_27 (P1 bx)) [Nb N F,[I 4,I i]])) else ev cfg (.loop 18 27 (qs bx (sh18_27 (P0 bx) (P1 bx) (I z) (.own true 1 (rboolR o)) (I nr.length) (I ((i + 1 : Nat) : Int))) [Nb N F,[I 0,I 0]])) := by
 subst hz
 have g1 := rbool_get ho
 have g2 := rbool_get ho2
 have l1 : i < (rboolR o).length := (gsi.1 g1).1
 have l2 : p < (rboolR o2).length := (gsi.1 g2).1
 cases v <;> cases v2 <;> simp (maxSteps := 2000000) only [go_sem,seval,nat_neg,tnc,hN,hF,nat_lt hlt,g1,g2,l1,l2,hcall,nat_succ hlt hmax]
theorem rc27e (hN : Oq N) (hF : Oq F) {m : Nat} (hge : m <= i) :
  Jq (.loop 18 27 (qs bx (sh18_27 (P0 bx) (P1 bx) (I z) (.own true 1 (rboolR o)) (I m) (I i)) [Nb N F,[I 0,I 0]])) = some (.loop (.exit 6) (qs bx (se18_27 (P1 bx)) [Nb N F,[I 0,I 0]])) := by
 simp (maxSteps := 2000000) only [go_sem,seval,nat_ge hge,hN,hF]
end
section
variable {bx : List Box} {nr fr : List (List D)} {N F : D} {s z q : Int} {o : List Bool}
theorem rcheck_big (hN : IsS 5 nr N) (hF : IsS 6 fr F) (hb : (decide ((nr.length : Int) > 24) || decide ((fr.length : Int) > 40)) = true) :
  Jq (.call 18 [Nq N F] bx) = Rq (.agg [I 1,I 0]) := by
 obtain ⟨w,h1,h2,h3⟩ := hN
 obtain ⟨w',g1,g2,g3⟩ := hF
 cases c0 : decide ((nr.length : Int) > 24)
 ·cases c1 : decide ((fr.length : Int) > 40)
  ·simp only [c0,c1,Bool.or_self,Bool.false_eq_true] at hb
  ·simp (maxSteps := 2000000) only [go_sem,seval,h1,h3,g1,g3,c0,c1]
 ·simp (maxSteps := 2000000) only [go_sem,seval,h1,h3,g1,g3,c0]
theorem rcheck_1 (hN : IsS 5 nr N) (hF : IsS 6 fr F) (sz1 : decide ((nr.length : Int) > 24) = false) (sz2 : decide ((fr.length : Int) > 40) = false)
  (hl4 : ev cfg (.loop 18 4 (qs bx (sh18_4 (P0 bx) (P1 bx) (.dat N) (I nr.length) (I 0)) [Nb N F,[I 0,I 0]])) = some (.loop .ret (qs bx (se18_4 (P0 bx) (P1 bx)) [Nb N F,[I 1,I q]]))) :
  Jq (.call 18 [Nq N F] bx) = Rq (.agg [I 1,I q]) := by
 obtain ⟨w,h1,h2,h3⟩ := hN
 obtain ⟨w',g1,g2,g3⟩ := hF
 simp (maxSteps := 2000000) only [go_sem,seval,h1,h3,g1,g3,sz1,sz2,hl4]
theorem rcheck_2 (hN : IsS 5 nr N) (hF : IsS 6 fr F) (sz1 : decide ((nr.length : Int) > 24) = false) (sz2 : decide ((fr.length : Int) > 40) = false)
  (hl4 : ev cfg (.loop 18 4 (qs bx (sh18_4 (P0 bx) (P1 bx) (.dat N) (I nr.length) (I 0)) [Nb N F,[I 0,I 0]])) = some (.loop (.exit 0) (qs bx (se18_4 (P0 bx) (P1 bx)) [Nb N F,[I 0,I 0]])))
  (hl10 : ev cfg (.loop 18 10 (qs bx (sh18_10 (P0 bx) (P1 bx) (.dat F) (I fr.length) (I 0)) [Nb N F,[I 0,I 0]])) = some (.loop .ret (qs bx (se18_10 (P0 bx) (P1 bx)) [Nb N F,[I 2,I q]]))) :
  Jq (.call 18 [Nq N F] bx) = Rq (.agg [I 2,I q]) := by
 obtain ⟨w,h1,h2,h3⟩ := hN
 obtain ⟨w',g1,g2,g3⟩ := hF
 simp (maxSteps := 2000000) only [go_sem,seval,h1,h3,g1,g3,sz1,sz2,hl4,hl10]
theorem rcheck_3 (hN : IsS 5 nr N) (hF : IsS 6 fr F) (sz1 : decide ((nr.length : Int) > 24) = false) (sz2 : decide ((fr.length : Int) > 40) = false)
  (hl4 : ev cfg (.loop 18 4 (qs bx (sh18_4 (P0 bx) (P1 bx) (.dat N) (I nr.length) (I 0)) [Nb N F,[I 0,I 0]])) = some (.loop (.exit 0) (qs bx (se18_4 (P0 bx) (P1 bx)) [Nb N F,[I 0,I 0]])))
  (hl10 : ev cfg (.loop 18 10 (qs bx (sh18_10 (P0 bx) (P1 bx) (.dat F) (I fr.length) (I 0)) [Nb N F,[I 0,I 0]])) = some (.loop (.exit 2) (qs bx (se18_10 (P0 bx) (P1 bx)) [Nb N F,[I 0,I 0]]))) (hs : Cq 39 [Nq N F,I 1] (I s)) (hz : Cq 39 [Nq N F,I 2] (I z))
  (hl18 : ev cfg (.loop 18 18 (qs bx (sh18_18 (P0 bx) (P1 bx) (I s) (I z) (.dat N) (I nr.length) (I 0)) [Nb N F,[I 0,I 0]])) = some (.loop .ret (qs bx (se18_18 (P0 bx) (P1 bx) (I s) (I z)) [Nb N F,[I 3,I q]]))) :
  Jq (.call 18 [Nq N F] bx) = Rq (.agg [I 3,I q]) := by
 obtain ⟨w,h1,h2,h3⟩ := hN
 obtain ⟨w',g1,g2,g3⟩ := hF
 simp (maxSteps := 2000000) only [go_sem,seval,h1,h3,g1,g3,sz1,sz2,hl4,hl10,hs,hz,hl18]
theorem rcheck_3b (hN : IsS 5 nr N) (hF : IsS 6 fr F) (sz1 : decide ((nr.length : Int) > 24) = false) (sz2 : decide ((fr.length : Int) > 40) = false)
  (hl4 : ev cfg (.loop 18 4 (qs bx (sh18_4 (P0 bx) (P1 bx) (.dat N) (I nr.length) (I 0)) [Nb N F,[I 0,I 0]])) = some (.loop (.exit 0) (qs bx (se18_4 (P0 bx) (P1 bx)) [Nb N F,[I 0,I 0]])))
  (hl10 : ev cfg (.loop 18 10 (qs bx (sh18_10 (P0 bx) (P1 bx) (.dat F) (I fr.length) (I 0)) [Nb N F,[I 0,I 0]])) = some (.loop (.exit 2) (qs bx (se18_10 (P0 bx) (P1 bx)) [Nb N F,[I 0,I 0]]))) (hs : Cq 39 [Nq N F,I 1] (I s)) (hz : Cq 39 [Nq N F,I 2] (I z))
  (hl18 : ev cfg (.loop 18 18 (qs bx (sh18_18 (P0 bx) (P1 bx) (I s) (I z) (.dat N) (I nr.length) (I 0)) [Nb N F,[I 0,I 0]])) = some (.loop (.exit 4) (qs bx (se18_18 (P0 bx) (P1 bx) (I s) (I z)) [Nb N F,[I 0,I 0]]))) (hb : (decide (s < 0) || decide (z < 0)) = true) :
  Jq (.call 18 [Nq N F] bx) = Rq (.agg [I 3,I nr.length]) := by
 obtain ⟨w,h1,h2,h3⟩ := hN
 obtain ⟨w',g1,g2,g3⟩ := hF
 cases c0 : decide (s < 0)
 ·cases c1 : decide (z < 0)
  ·simp only [c0,c1,Bool.or_self,Bool.false_eq_true] at hb
  ·simp (maxSteps := 2000000) only [go_sem,seval,h1,h3,g1,g3,sz1,sz2,hl4,hl10,hs,hz,hl18,c0,c1]
 ·simp (maxSteps := 2000000) only [go_sem,seval,h1,h3,g1,g3,sz1,sz2,hl4,hl10,hs,hz,hl18,c0]
theorem rcheck_4 (hN : IsS 5 nr N) (hF : IsS 6 fr F) (sz1 : decide ((nr.length : Int) > 24) = false) (sz2 : decide ((fr.length : Int) > 40) = false)
  (hl4 : ev cfg (.loop 18 4 (qs bx (sh18_4 (P0 bx) (P1 bx) (.dat N) (I nr.length) (I 0)) [Nb N F,[I 0,I 0]])) = some (.loop (.exit 0) (qs bx (se18_4 (P0 bx) (P1 bx)) [Nb N F,[I 0,I 0]])))
  (hl10 : ev cfg (.loop 18 10 (qs bx (sh18_10 (P0 bx) (P1 bx) (.dat F) (I fr.length) (I 0)) [Nb N F,[I 0,I 0]])) = some (.loop (.exit 2) (qs bx (se18_10 (P0 bx) (P1 bx)) [Nb N F,[I 0,I 0]]))) (hs : Cq 39 [Nq N F,I 1] (I s)) (hz : Cq 39 [Nq N F,I 2] (I z))
  (hl18 : ev cfg (.loop 18 18 (qs bx (sh18_18 (P0 bx) (P1 bx) (I s) (I z) (.dat N) (I nr.length) (I 0)) [Nb N F,[I 0,I 0]])) = some (.loop (.exit 4) (qs bx (se18_18 (P0 bx) (P1 bx) (I s) (I z)) [Nb N F,[I 0,I 0]]))) (d1 : decide (s < 0) = false) (d2 : decide (z < 0) = false) (hr : Cq 41 [Nq N F,I s] (.own true 1 (rboolR o)))
  (hl27 : ev cfg (.loop 18 27 (qs bx (sh18_27 (P0 bx) (P1 bx) (I z) (.own true 1 (rboolR o)) (I nr.length) (I 0)) [Nb N F,[I 0,I 0]])) = some (.loop .ret (qs bx (se18_27 (P1 bx)) [Nb N F,[I 4,I q]]))) :
  Jq (.call 18 [Nq N F] bx) = Rq (.agg [I 4,I q]) := by
 obtain ⟨w,h1,h2,h3⟩ := hN
 obtain ⟨w',g1,g2,g3⟩ := hF
 simp (maxSteps := 2000000) only [go_sem,seval,h1,h3,g1,g3,sz1,sz2,hl4,hl10,hs,hz,hl18,d1,d2,hr,hl27]
theorem rcheck_0 (hN : IsS 5 nr N) (hF : IsS 6 fr F) (sz1 : decide ((nr.length : Int) > 24) = false) (sz2 : decide ((fr.length : Int) > 40) = false)
  (hl4 : ev cfg (.loop 18 4 (qs bx (sh18_4 (P0 bx) (P1 bx) (.dat N) (I nr.length) (I 0)) [Nb N F,[I 0,I 0]])) = some (.loop (.exit 0) (qs bx (se18_4 (P0 bx) (P1 bx)) [Nb N F,[I 0,I 0]])))
  (hl10 : ev cfg (.loop 18 10 (qs bx (sh18_10 (P0 bx) (P1 bx) (.dat F) (I fr.length) (I 0)) [Nb N F,[I 0,I 0]])) = some (.loop (.exit 2) (qs bx (se18_10 (P0 bx) (P1 bx)) [Nb N F,[I 0,I 0]]))) (hs : Cq 39 [Nq N F,I 1] (I s)) (hz : Cq 39 [Nq N F,I 2] (I z))
  (hl18 : ev cfg (.loop 18 18 (qs bx (sh18_18 (P0 bx) (P1 bx) (I s) (I z) (.dat N) (I nr.length) (I 0)) [Nb N F,[I 0,I 0]])) = some (.loop (.exit 4) (qs bx (se18_18 (P0 bx) (P1 bx) (I s) (I z)) [Nb N F,[I 0,I 0]]))) (d1 : decide (s < 0) = false) (d2 : decide (z < 0) = false) (hr : Cq 41 [Nq N F,I s] (.own true 1 (rboolR o)))
  (hl27 : ev cfg (.loop 18 27 (qs bx (sh18_27 (P0 bx) (P1 bx) (I z) (.own true 1 (rboolR o)) (I nr.length) (I 0)) [Nb N F,[I 0,I 0]])) = some (.loop (.exit 6) (qs bx (se18_27 (P1 bx)) [Nb N F,[I 0,I 0]]))) :
  Jq (.call 18 [Nq N F] bx) = Rq (.agg [I 0,I 0]) := by
 obtain ⟨w,h1,h2,h3⟩ := hN
 obtain ⟨w',g1,g2,g3⟩ := hF
 simp (maxSteps := 2000000) only [go_sem,seval,h1,h3,g1,g3,sz1,sz2,hl4,hl10,hs,hz,hl18,d1,d2,hr,hl27]
end
theorem ldeep_round {bx : List Box} {l : Nat} {m d : Int} {c : Box} {rows : List (List D)} {K K' : D} {i : Nat} {op n : Int} {res : Bool × Int} (hK : IsS 3 rows K) (hl : l < bx.length) (hb : bx[l]? = some [I m]) (hc : c.all (cellLt (bx.length + 1)) = true)
  (hget : rows[i]? = some [dI op,dI n,K']) (hlt : i < rows.length) (hmax : rows.length < 9223372036854775808) (hd : IntKind.wrap .i64 (d + 1) = d + 1) (hk : Oq K')
  (hcall : ∀ bx : List Box,bx[l]? = some [I m] -> l < bx.length -> ev cfg (.call 25 [Tq op n K',.ptr l 0,I (d + 1)] bx) = some (.ret (B res.1) (some ⟨bx.set l [I res.2],l,false⟩))) :
  Jq (.loop 25 5 ⟨(sh25_5 (.ptr l 0) (I d) (.dat K) (I rows.length) (I i)),bx ++ [c],bx.length,some l,false⟩) =
   if res.1 = true then some (.loop .ret ⟨(se25_5 (B true)),bx.set l [I res.2] ++ [c],bx.length,some l,false⟩)
   else ev cfg (.loop 25 5 ⟨(sh25_5 (.ptr l 0) (I d) (.dat K) (I rows.length) (I ((i + 1 : Nat) : Int))),bx.set l [I res.2] ++ [c],bx.length,some l,false⟩) := by
 obtain ⟨w,h1,h2,h3⟩ := hK
 obtain rfl := isS_w h2 hget
 have hcall' : ∀ r : Box,ev cfg (.call 25 [Tq op n K',.ptr l 0,I (d + 1)] (bx ++ [c,r])) = some (.ret (B res.1) (some ⟨bx.set l [I res.2] ++ [c,r],l,false⟩)) := by
  intro r
  rw [hcall _ (by rw [get_old hl]; exact hb) (by simp; omega),set_old hl]
 cases hres : res.1 <;> simp (maxSteps := 2000000) only [go_sem,seval,h1,h3,hk,nat_lt hlt,nat_neg,tnc,hget,hd,hcall',hres,hl,hc,nat_succ hlt hmax,Nat.min_self]
theorem ldeep_end {bx : List Box} {l : Nat} {d : Int} {c : Box} {n i : Nat} {K : D} (hl : l < bx.length) (hc : c.all (cellLt (bx.length + 1)) = true) (hge : n <= i) :
  Jq (.loop 25 5 ⟨(sh25_5 (.ptr l 0) (I d) (.dat K) (I n) (I i)),bx ++ [c],bx.length,some l,false⟩) = some (.loop (.exit 0) ⟨(se25_5 .dead),bx ++ [c],bx.length,some l,false⟩) := by
 simp (maxSteps := 2000000) only [go_sem,seval,nat_ge hge,hl,hc]
theorem ldeep_first {bx : List Box} {l : Nat} {m d : Int} {ks : List Trm} {op n : Int} {rows : List (List D)} {K : D} {res : Bool × Int} (hK : IsS 3 rows K) (hl : l < bx.length) (hb : bx[l]? = some [I m]) (hm : IntKind.wrap .i64 (m - 1) = m - 1) (hrl : rows.length = ks.length)
  (hloop : decide (m - 1 < 0) = false -> decide (d > 40) = false -> ∀ c : Box,c.all (cellLt (bx.length + 1)) = true -> ev cfg (.loop 25 5 ⟨(sh25_5 (.ptr l 0) (I d) (.dat K) (I rows.length) (I 0)),bx.set l [I (m - 1)] ++ [c],bx.length,some l,false⟩) =
   some (if res.1 = true then .loop .ret ⟨(se25_5 (B true)),bx.set l [I res.2] ++ [c],bx.length,some l,false⟩ else .loop (.exit 0) ⟨(se25_5 .dead),bx.set l [I res.2] ++ [c],bx.length,some l,false⟩)) :
  Jq (.call 25 [Tq op n K,.ptr l 0,I d] bx) =
   if (decide (m - 1 < 0) || decide (d > 40) || decide ((ks.length : Int) > 50)) = true then some (.ret (B true) (some ⟨bx.set l [I (m - 1)],l,false⟩)) else some (.ret (B res.1) (some ⟨bx.set l [I res.2],l,false⟩)) := by
 obtain ⟨w,h1,h2,h3⟩ := hK
 cases c1 : decide (m - 1 < 0)
 ·cases c2 : decide (d > 40)
  ·cases c3 : decide ((ks.length : Int) > 50)
   ·have hloop' := hloop c1 c2 [I op,I n,.dat K] (by simp [cellLt])
    cases hres : res.1 <;> simp only [hres,if_true,if_false,Bool.false_eq_true] at hloop' <;> simp (maxSteps := 2000000) only [go_sem,seval,h1,h3,hl,hb,hm,hrl,c1,c2,c3,hres] at hloop' ⊢ <;> simp only [hloop',go_sem,seval]
   ·simp (maxSteps := 2000000) only [go_sem,seval,h1,h3,hl,hb,hm,hrl,c1,c2,c3]
  ·simp (maxSteps := 2000000) only [go_sem,seval,h1,h3,hl,hb,hm,hrl,c1,c2]
 ·simp (maxSteps := 2000000) only [go_sem,seval,h1,h3,hl,hb,hm,hrl,c1]
theorem ldeep_ev : ∀ (b : Trm) {op n : Int} {K : D} {m d : Int} {l : Nat} {bx : List Box},IsT b op n K -> -1 <= m -> m <= 1000000 -> 0 <= d -> d <= 41 -> bx[l]? = some [I m] →
  ev cfg (.call 25 [Tq op n K,.ptr l 0,I d] bx) = some (.ret (B (lgT m d b).1) (some ⟨bx.set l [I (lgT m d b).2],l,false⟩))
 | .mk op n ks,_,_,K,m,d,l,bx,h,hm,hm2,hd,hd2,hb => by
  rw [IsT] at h
  obtain ⟨rfl,rfl,_,_,rows,hK,hks,hmax⟩ := h
  have hl : l < bx.length := (gsi.1 hb).1
  apply ev_step
  show Jq _ = _
  rw [ldeep_first (res := lgT.lgs (m - 1) (d + 1) ks) hK hl hb (wrap_lo (by omega) (by omega)) (isTs_len hks) ?_]
  ·rw [lgT]; split <;> rfl
  ·intro c1 c2 c hc
   have := loop ks (bx := bx.set l [I (m - 1)]) (d := d) (l := l) (m := m - 1) (i := 0) (c := c) hK rfl hks (by rw [(isTs_len hks)]; exact hmax) (by simp at c1; omega) (by omega) hd (by simpa using c2) (by simp [hl]) (by simpa using hc)
   simp only [lls,List.set_set] at this
   exact this
where
 loop : ∀ (bs : List Trm) {rows rs : List (List D)} {K : D} {m d : Int} {l i : Nat} {bx : List Box} {c : Box},IsS 3 rows K -> rows.drop i = rs -> IsT.IsTs bs rs -> rows.length < 9223372036854775808 -> -1 <= m -> m <= 1000000 -> 0 <= d -> d <= 40 -> bx[l]? = some [I m] -> c.all (cellLt (bx.length + 1)) = true →
  ev cfg (.loop 25 5 ⟨(sh25_5 (.ptr l 0) (I d) (.dat K) (I rows.length) (I i)),bx ++ [c],bx.length,some l,false⟩) =
   some (if (lgT.lgs m (d + 1) bs).1 = true then .loop .ret ⟨(se25_5 (B true)),bx.set l [I (lgT.lgs m (d + 1) bs).2] ++ [c],bx.length,some l,false⟩
   else .loop (.exit 0) ⟨(se25_5 .dead),bx.set l [I (lgT.lgs m (d + 1) bs).2] ++ [c],bx.length,some l,false⟩)
 | [],rows,rs,K,m,d,l,i,bx,c,hK,hr,hbs,hmax,hm,hm2,hd,hd2,hb,hc => by
  have hl : l < bx.length := (gsi.1 hb).1
  rw [IsT.IsTs] at hbs
  subst hbs
  simp only [lgT.lgs,Bool.false_eq_true,if_false]
  apply ev_step
  show Jq _ = _
  rw [ldeep_end hl hc (drop_nil hr),set_same hb]
 | b :: bs,rows,rs,K,m,d,l,i,bx,c,hK,hr,hbs,hmax,hm,hm2,hd,hd2,hb,hc => by
  have hl : l < bx.length := (gsi.1 hb).1
  rw [IsT.IsTs] at hbs
  obtain ⟨op,n,K',rest,rfl,hB,hrest⟩ := hbs
  obtain ⟨hget,hr',hlt⟩ := drop_cons hr
  have hb1 := fun (bx' : List Box) (h : bx'[l]? = some [I m]) (_ : l < bx'.length) => ldeep_ev b (d := d + 1) hB hm hm2 (by omega) (by omega) h
  have hst := ldeep_round (res := lgT m (d + 1) b) (d := d) hK hl hb hc hget hlt hmax (wrap_lo (by omega) (by omega)) (isT_one hB) hb1
  rw [lgT.lgs]
  by_cases hres : (lgT m (d + 1) b).1 = true
  ·rw [if_pos hres] at hst
   rw [if_pos hres,if_pos rfl]
   exact es hst
  ·rw [if_neg hres] at hst
   rw [if_neg hres]
   have hge := lgT_ge b m (d + 1)
   have := loop bs (bx := bx.set l [I (lgT m (d + 1) b).2]) (l := l) (m := (lgT m (d + 1) b).2) (i := i + 1) (d := d) (c := c) hK hr' hrest hmax (lgT_lo b m (d + 1) hres) (by omega) hd hd2 (by simp [hl]) (by simpa using hc)
   simp only [lls,List.set_set] at this
   exact es (hst.trans this)
section
end
end Go.Proofs.YtifckjhggamefaaGreatDoor
