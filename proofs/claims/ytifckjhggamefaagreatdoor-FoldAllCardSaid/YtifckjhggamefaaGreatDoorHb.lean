/- What large, wrong and Check answer, the reference's, too. No condition. -/
import Derived.Test.YtifckjhggamefaaGreatDoorHa
import Derived.Test.YtifckjhggamefaaGreatDoorQb
set_option linter.unusedSimpArgs false
set_option linter.unusedVariables false
set_option linter.unusedSectionVars false
namespace Go.Proofs.YtifckjhggamefaaGreatDoor
open Go Go.Vx
set_option maxRecDepth 10000
set_option maxHeartbeats 2000000
theorem isT_K {b : Trm} {op n : Int} {K : D} (h : IsT b op n K) : ∃ r,IsS 3 r K := by
 cases b
 rw [IsT] at h
 obtain ⟨_,_,_,_,rows,h1,_⟩ := h
 exact ⟨_,h1⟩
def findT (p : Trm -> Bool) (i : Nat) : List Trm -> Option Nat
 | [] => none
 | b :: bs => if p b = true then some i else findT p (i + 1) bs
theorem findT_any (p : Trm -> Bool) : ∀ (bs : List Trm) (i : Nat),(findT p i bs).isSome = bs.any p
 | [],_ => rfl
 | b :: bs,i => by
  rw [findT,List.any_cons]
  cases p b with
  | true => rfl
  | false => simpa using findT_any p bs (i + 1)
theorem idx_ev {p : Trm -> Bool} {g : FuncId} {cap : List Nat} {bx : List Box} (hcap : cap.all (fun l => decide (l < bx.length)) = true) : ∀ (bs : List Trm) {rows rs : List (List D)} {K : D} {i : Nat},IsS 3 rows K -> rows.drop i = rs -> IsT.IsTs bs rs -> rows.length < 9223372036854775808 →
  (∀ b ∈ bs,∀ {op n : Int} {K' : D},IsT b op n K' -> ev cfg (.call g ([Tq op n K'] ++ cap.map fun l => .ptr l 0) bx) = Rq (B (p b))) →
  ev cfg (.loop 177 2 (q0 bx (sh177_2 (.dat K) (.clo g cap) (I rows.length) (I i)))) =
   some (match findT p i bs with | some j => .loop .ret (q0 bx (se177_2 (I j))) | none => .loop (.exit 0) (q0 bx (se177_2 .dead)))
 | [],rows,rs,K,i,hK,hr,hbs,hmax,hp => by
  rw [IsT.IsTs] at hbs
  subst hbs
  exact es (e84 hcap (drop_nil hr))
 | b :: bs,rows,rs,K,i,hK,hr,hbs,hmax,hp => by
  rw [IsT.IsTs] at hbs
  obtain ⟨op,n,K',rest,rfl,hB,hrest⟩ := hbs
  obtain ⟨hget,hr',hlt⟩ := drop_cons hr
  have h1 := r84 hK hget hlt hmax hcap (hp b (mcs ..) hB)
  rw [findT]
  cases hpb : p b with
  | true =>
   rw [hpb,if_pos rfl] at h1
   rw [if_pos rfl]
   exact es h1
  | false =>
   rw [hpb,if_neg (by decide)] at h1
   rw [if_neg (by decide)]
   exact es (h1.trans (idx_ev hcap bs hK hr' hrest hmax fun b hb => hp b (mcm _ hb)))
theorem cf_ev {p : Trm -> Bool} {g : FuncId} {cap : List Nat} {bx : List Box} (hcap : cap.all (fun l => decide (l < bx.length)) = true) {bs : List Trm} {rows : List (List D)} {K : D} (hK : IsS 3 rows K) (hbs : IsT.IsTs bs rows) (hmax : bs.length < 9223372036854775808)
  (hp : ∀ b ∈ bs,∀ {op n : Int} {K' : D},IsT b op n K' -> ev cfg (.call g ([Tq op n K'] ++ cap.map fun l => .ptr l 0) bx) = Rq (B (p b))) :
  ev cfg (.call 173 [.dat K,.clo g cap] bx) = Rq (B (bs.any p)) := by
 have h := idx_ev hcap bs (i := 0) hK rfl hbs (by rw [isTs_len hbs]; exact hmax) hp
 have h2 := es (f84 (r := findT p 0 bs) hK h)
 have h3 := es (f63 hK h2)
 rw [<- findT_any p bs 0,h3]
 cases findT p 0 bs with
 | none => rfl
 | some j =>
  have : decide (idxI (some j) >= 0) = true := by simp [idxI]
  simp only [this,Option.isSome_some]
theorem deepT_any (d : Int) : ∀ bs : List Trm,bs.any (deepT d) = deepT.go d bs
 | [] => by rw [deepT.go]; rfl
 | b :: bs => by rw [deepT.go,List.any_cons,deepT_any d bs]
def DeepP (b : Trm) : Prop := ∀ {d op n : Int} {K : D},IsT b op n K -> 0 <= d -> d + depT b <= 1000000000 -> Cq 171 [Tq op n K,I d] (B (deepT d b))
theorem tdeep_ev : ∀ (b : Trm) {d op n : Int} {K : D},IsT b op n K -> 0 <= d -> d + depT b <= 1000000000 -> Cq 171 [Tq op n K,I d] (B (deepT d b))
 | .mk _ _ ks,d,op,n,K,h,hd,hz,bx => by
  rw [IsT] at h
  obtain ⟨rfl,rfl,_,_,rows,hK,hks,hmax⟩ := h
  rw [deepT,<- deepT_any]
  rw [depT] at hz
  refine es (f61 hK fun c => cf_ev (p := deepT (d + 1)) (by simp) hK hks hmax fun b hb op n K' hB => ?_)
  have hle := all_le ks 0 b hb
  obtain ⟨r,hK'⟩ := isT_K hB
  have := (depT_le b).1
  exact es (f82 (d := d) hK' (by simp) (by simp) (wrap_lo (by omega) (by omega)) (all ks b hb hB (by omega) (by omega)))
where
 all : ∀ (bs : List Trm),∀ b ∈ bs,DeepP b
  | [],b,h => by cases h
  | c :: cs,b,h => (List.mem_cons.1 h).elim (fun e => e ▸ (fun h1 => tdeep_ev c h1)) fun h => all cs b h
 all_le : ∀ (bs : List Trm) (m : Int),∀ b ∈ bs,depT b <= depT.go m bs
 | [],_,b,h => by cases h
 | c :: cs,m,b,h => by
  rw [depT.go]
  rcases List.mem_cons.1 h with h | h
  ·subst h
   have := (go_ge cs (if m < depT b then depT b else m))
   split at this <;> split <;> omega
  ·exact all_le cs _ b h
 go_ge : ∀ (bs : List Trm) (m : Int),m <= depT.go m bs
 | [],m => by rw [depT.go]; omega
 | c :: cs,m => by
  rw [depT.go]
  have := go_ge cs (if m < depT c then depT c else m)
  split at this <;> split <;> omega
theorem shapT_any : ∀ bs : List Trm,bs.any (fun b => !shapT b) = !shapT.go bs
 | [] => by rw [shapT.go]; rfl
 | b :: bs => by rw [shapT.go,List.any_cons,shapT_any bs,Bool.not_and]
theorem nodeOk_1 (n : Int) (l : Nat) : nodeOk 1 n l = ((l : Int) == 0 && decide (n >= 0) && decide (n <= 1099511627776)) := by
 rw [nodeOk,if_pos rfl]
 have : (l == 0) = ((l : Int) == 0) := by rw [Bool.eq_iff_iff]; simp
 rw [this]
theorem nodeOk_2 (n : Int) (l : Nat) : nodeOk 2 n l = ((l : Int) == 0 && decide (n >= 0) && decide (n < 4)) := by
 rw [nodeOk,if_neg (by decide),if_pos rfl]
 have : (l == 0) = ((l : Int) == 0) := by rw [Bool.eq_iff_iff]; simp
 rw [this]
def ShapP (b : Trm) : Prop := ∀ {op n : Int} {K : D},IsT b op n K -> Cq 172 [Tq op n K] (B (shapT b))
theorem shap_ev : ∀ (b : Trm) {op n : Int} {K : D},IsT b op n K -> Cq 172 [Tq op n K] (B (shapT b))
 | .mk _ _ ks,op,n,K,h,bx => by
  rw [IsT] at h
  obtain ⟨rfl,rfl,_,_,rows,hK,hks,hmax⟩ := h
  rw [shapT]
  have hrl := isTs_len hks
  by_cases e1 : op = 1
  ·subst e1
   rw [es (f62_1 hK hrl),<- nodeOk_1]
   cases hn : nodeOk 1 n ks.length with
   | false => rfl
   | true =>
    rw [nodeOk_1] at hn
    simp at hn
    rw [hn.1.1,shapT.go]; rfl
  ·by_cases e2 : op = 2
   ·subst e2
    rw [es (f62_2 hK hrl),<- nodeOk_2]
    cases hn : nodeOk 2 n ks.length with
    | false => rfl
    | true =>
     rw [nodeOk_2] at hn
     simp at hn
     rw [hn.1.1,shapT.go]; rfl
   ·have h1 : (op == 1) = false := by simpa using e1
    have h2 : (op == 2) = false := by simpa using e2
    have hno : nodeOk op n ks.length = (okOp op && n == 0 && ks.length == arity op) := by rw [nodeOk,if_neg e1,if_neg e2]
    rw [hno]
    by_cases hb : (decide (op < 3) || decide (op > 14) || n != 0) = true
    ·rw [es (f62_no hK h1 h2 hb)]
     have : (okOp op && n == 0) = false := by
      rw [Bool.eq_false_iff]
      intro h
      simp only [okOp,Bool.and_eq_true,dqE,beq_iff_eq] at h
      simp only [Bool.or_eq_true,dqE,bne_iff_ne,ne_eq] at hb
      omega
     rw [this]; rfl
    ·rw [Bool.not_eq_true,Bool.or_eq_false_iff,Bool.or_eq_false_iff] at hb
     obtain ⟨⟨c1,c2⟩,c3⟩ := hb
     have hok : okOp op = true := by
      simp only [okOp,Bool.and_eq_true,dqE]
      simp only [decide_eq_false_iff_not] at c1 c2
      omega
     have hn : (n == 0) = true := by simpa using c3
     have hkids := fun bx : List Box => cf_ev (p := fun b => !shapT b) (g := 176) (cap := []) (bx := bx) rfl hK hks hmax fun b hb op n K' hB => by
      obtain ⟨r,hK'⟩ := isT_K hB
      exact es (f83 hK' (all ks b hb hB))
     rw [es (f62_op hK hrl h1 h2 c1 c2 c3 (wd hok) hkids),shapT_any,hok,hn]
     have : (!((ks.length : Int) != (arity op : Int))) = (ks.length == arity op) := by rw [Bool.eq_iff_iff]; simp; omega
     rw [this,Bool.not_not]
     rfl
where
 all : ∀ (bs : List Trm),∀ b ∈ bs,ShapP b
  | [],b,h => by cases h
  | c :: cs,b,h => (List.mem_cons.1 h).elim (fun e => e ▸ (fun h1 => shap_ev c h1)) fun h => all cs b h
theorem twrong_ev (b : Trm) {op n : Int} {K : D} (h : IsT b op n K) (hz : sizeT b <= 1000000) (bx : List Box) : ev cfg (.call 167 [Tq op n K] bx) = Rq (I (wrongT b)) := by
 obtain ⟨r,hK⟩ := isT_K h
 have := (depT_le b).2
 exact es (f43 hK (tdeep_ev b h (by omega) (by omega)) (shap_ev b h))
theorem typT_any (op : Int) : ∀ bs : List Trm,bs.any (fun b => typT b != tyOf (asked op)) = !typT.go op bs
 | [] => by rw [typT.go]; rfl
 | b :: bs => by
  rw [typT.go,List.any_cons,typT_any op bs,Bool.not_and]; rfl
theorem node_op {op n : Int} {l : Nat} (h : nodeOk op n l = true) (e1 : ¬ op = 1) (e2 : ¬ op = 2) : okOp op = true /\ n = 0 /\ l = arity op := by
 rw [nodeOk,if_neg e1,if_neg e2] at h
 simp only [Bool.and_eq_true,beq_iff_eq] at h
 exact ⟨h.1.1,h.1.2,h.2⟩
def TypP (b : Trm) : Prop := ∀ {op n : Int} {K : D},IsT b op n K -> shapT b = true -> Cq 168 [Tq op n K] (I (typT b))
theorem typ_ev : ∀ (b : Trm) {op n : Int} {K : D},IsT b op n K -> shapT b = true -> Cq 168 [Tq op n K] (I (typT b))
 | .mk _ _ ks,op,n,K,h,hs,bx => by
  rw [IsT] at h
  obtain ⟨rfl,rfl,_,_,rows,hK,hks,hmax⟩ := h
  rw [shapT,Bool.and_eq_true] at hs
  rw [typT]
  by_cases e : op = 1 ∨ op = 2
  ·rw [if_pos e]
   exact es (f44_leaf hK (by simpa using e))
  ·rw [if_neg e]
   have e1 : ¬ op = 1 := fun h => e (.inl h)
   have e2 : ¬ op = 2 := fun h => e (.inr h)
   obtain ⟨hok,_,_⟩ := node_op hs.1 e1 e2
   have := es (f44_op (bx := bx) (n := n) (b := ks.any fun b => typT b != tyOf (asked op)) hK (by simpa using e1) (by simpa using e2) (wd hok) fun c => cf_ev (p := fun b => typT b != tyOf (asked op)) (by simp) hK hks hmax fun b hb op' n' K' hB => by
    obtain ⟨r,hK'⟩ := isT_K hB
    exact es (f64 (l := bx.length + 1) (s := bsL (wordL op)) (ar := arity op) (ask := tyOf (asked op)) (out := tyOf (truth op)) hK' (by simp) (by simp) (all ks b hb hB (kids ks hs.2 b hb))))
   rw [this,typT_any]
   cases typT.go op ks <;> rfl
where
 all : ∀ (bs : List Trm),∀ b ∈ bs,TypP b
  | [],b,h => by cases h
  | c :: cs,b,h => (List.mem_cons.1 h).elim (fun e => e ▸ (fun h1 => typ_ev c h1)) fun h => all cs b h
 kids : ∀ (bs : List Trm),shapT.go bs = true -> ∀ b ∈ bs,shapT b = true
 | [],_,b,h => by cases h
 | c :: cs,hs,b,h => by
  rw [shapT.go,Bool.and_eq_true] at hs
  rcases List.mem_cons.1 h with h | h
  ·subst h; exact hs.1
  ·exact kids cs hs.2 b h
def checkT (t : Trm) : Int × Int := if wrongT t = 0 then (if typT t = 0 then (0,30) else (typT t,0)) else (0,wrongT t)
theorem wrongT_zero {t : Trm} (h : wrongT t = 0) : deepT 1 t = false /\ shapT t = true := by
 unfold wrongT at h
 split at h
 ·cases h
 ·rename_i hd
  split at h
  ·rename_i hs
   exact ⟨by simpa using hd,hs⟩
  ·cases h
theorem check_ev (b : Trm) {op n : Int} {K : D} (h : IsT b op n K) (hz : sizeT b <= 1000000) (bx : List Box) : ev cfg (.call 158 [Tq op n K] bx) = Rq (.tup [I (checkT b).1,I (checkT b).2]) := by
 obtain ⟨r,hK⟩ := isT_K h
 unfold checkT
 by_cases hw : wrongT b = 0
 ·rw [if_pos hw]
  have hw' := twrong_ev b h hz
  rw [hw] at hw'
  rw [es (f21_ok hK hw' (typ_ev b h (wrongT_zero hw).2))]
  by_cases ht : typT b = 0
  ·rw [if_pos ht,ht]; rfl
  ·rw [if_neg ht]
   have : (typT b == 0) = false := by simpa using ht
   rw [this]; rfl
 ·rw [if_neg hw]
  exact es (f21_bad hK (by simpa using hw) (twrong_ev b h hz))
theorem dep_ev : ∀ (b : Trm) {op n : Int} {K : D},IsT b op n K -> sizeT b <= 1000000 -> Cq 159 [Tq op n K] (I (depT b))
 | .mk _ _ ks,op,n,K,h,hz,bx => by
  rw [IsT] at h
  obtain ⟨rfl,rfl,_,_,rows,hK,hks,hmax⟩ := h
  have hd := depT_le.go ks 0 (by omega)
  rw [sizeT] at hz
  rw [depT]
  exact es (f65 hK (wrap_lo (by omega) (by omega)) fun c hc => loop ks (i := 0) (m := 0) hK rfl hks (by rw [isTs_len hks]; exact hmax) (by omega) hc)
where
 loop : ∀ (bs : List Trm) {rows rs : List (List D)} {K : D} {m : Int} {i : Nat} {bx : List Box} {c : Box},IsS 3 rows K -> rows.drop i = rs -> IsT.IsTs bs rs -> rows.length < 9223372036854775808 -> sizeT.go bs <= 1000000 -> c.all (cellLt (bx.length + 1)) = true →
  ev cfg (.loop 159 3 (qs bx (sh159_3 (I m) (.dat K) (I rows.length) (I i)) [c])) = some (.loop (.exit 0) (qs bx (se159_3 (I (depT.go m bs))) [c]))
 | [],rows,rs,K,m,i,bx,c,hK,hr,hbs,hmax,hz,hc => by
  rw [IsT.IsTs] at hbs
  subst hbs
  rw [depT.go]
  exact es (e65 hc (drop_nil hr))
 | b :: bs,rows,rs,K,m,i,bx,c,hK,hr,hbs,hmax,hz,hc => by
  rw [IsT.IsTs] at hbs
  obtain ⟨op,n,K',rest,rfl,hB,hrest⟩ := hbs
  obtain ⟨hget,hr',hlt⟩ := drop_cons hr
  rw [sizeT.go] at hz
  have p1 := sizeT_pos b
  have p2 := sizeT_pos.go bs
  rw [depT.go]
  exact es ((r65 hK hc hget hlt hmax (isT_one hB) (dep_ev b hB (by omega))).trans (loop bs (i := i + 1) hK hr' hrest hmax (by omega) hc))
theorem nodeOk_form {op n : Int} {l : Nat} (hr : ∀ ar : Int,ar = (if op < 3 then 0 else if op < 5 then 1 else 2) -> ((l : Int) != ar) = false) (c1 : decide (op < 1) = false) (c2 : decide (op > 14) = false) (c4 : decide (n < 0) = false)
  (d1 : ((op == 1) && decide (n > 1099511627776)) = false) (d2 : ((op == 2) && decide (n > 3)) = false) (d3 : (decide (op > 2) && (n != 0)) = false) : nodeOk op n l = true := by
 have hr := hr _ rfl
 simp only [decide_eq_false_iff_not,Bool.and_eq_false_iff,beq_eq_false_iff_ne,ne_eq,bne_eq_false_iff_eq] at c1 c2 c4 d1 d2 d3 hr
 unfold nodeOk
 split
 ·rename_i e
  subst e
  simp at hr d1 c4 ⊢
  omega
 ·split
  ·rename_i e
   subst e
   simp at hr d2 c4 ⊢
   omega
  ·rename_i e1 e2
   have h3 : ¬ op < 3 := by omega
   rw [if_neg h3] at hr
   simp only [okOp,arity,Bool.and_eq_true,dqE,beq_iff_eq]
   refine ⟨⟨⟨by omega,by omega⟩,?_⟩,?_⟩
   ·rcases d3 with d3 | d3 <;> omega
   ·split at hr <;> split <;> omega
theorem form_ev : ∀ (b : Trm) {op n : Int} {K : D},IsT b op n K -> Cq 160 [Tq op n K] (B (shapT b))
 | .mk _ _ ks,op,n,K,h,bx => by
  rw [IsT] at h
  obtain ⟨rfl,rfl,_,_,rows,hK,hks,hmax⟩ := h
  have hrl := isTs_len hks
  have hk : Cq 169 [I op] (I (if op < 3 then 0 else if op < 5 then 1 else 2)) := fun bx => es f79
  rw [shapT]
  by_cases hok : nodeOk op n ks.length = true
  ·rw [hok,Bool.true_and]
   have hA : (decide (op < 1) = false /\ decide (op > 14) = false) /\ ((ks.length : Int) != (if op < 3 then 0 else if op < 5 then 1 else 2)) = false /\ decide (n < 0) = false /\ ((op == 1) && decide (n > 1099511627776)) = false /\ ((op == 2) && decide (n > 3)) = false /\ (decide (op > 2) && (n != 0)) = false := by
    generalize ks.length = kl at hok ⊢
    simp only [decide_eq_false_iff_not,Bool.and_eq_false_iff,beq_eq_false_iff_ne,ne_eq,bne_eq_false_iff_eq]
    unfold nodeOk at hok
    split at hok
    ·rename_i e; subst e; simp at hok ⊢; omega
    ·split at hok
     ·rename_i e; subst e; simp at hok ⊢; omega
     ·rename_i e1 e2
      simp only [okOp,arity,Bool.and_eq_true,dqE,beq_iff_eq] at hok
      have h3 : ¬ op < 3 := by omega
      rw [if_neg h3]
      refine ⟨⟨by omega,by omega⟩,?_,by omega,.inl (by omega),.inl (by omega),.inr (by omega)⟩
      have := hok.2
      split at this <;> split <;> omega
   obtain ⟨⟨a1,a2⟩,a3,a4,a5,a6,a7⟩ := hA
   exact es (f66_go hK hrl a1 a2 hk a3 a4 a5 a6 a7 fun c hc => loop ks (i := 0) hK rfl hks (by rw [hrl]; exact hmax) hc)
  ·have hno : nodeOk op n ks.length = false := by simpa using hok
   rw [hno,Bool.false_and]
   by_cases b1 : (decide (op < 1) || decide (op > 14)) = true
   ·exact es (f66_bad1 hK b1)
   ·rw [Bool.not_eq_true,Bool.or_eq_false_iff] at b1
    by_cases b2 : ((ks.length : Int) != (if op < 3 then 0 else if op < 5 then 1 else 2) || decide (n < 0)) = true
    ·exact es (f66_bad2 hK hrl b1.1 b1.2 hk b2)
    ·rw [Bool.not_eq_true,Bool.or_eq_false_iff] at b2
     by_cases b3 : ((op == 1) && decide (n > 1099511627776) || (op == 2) && decide (n > 3) || decide (op > 2) && (n != 0)) = true
     ·exact es (f66_bad3 hK hrl b1.1 b1.2 hk b2.1 b2.2 b3)
     ·rw [Bool.not_eq_true,Bool.or_eq_false_iff,Bool.or_eq_false_iff] at b3
      exact absurd (nodeOk_form (fun ar e => by rw [e]; exact b2.1) b1.1 b1.2 b2.2 b3.1.1 b3.1.2 b3.2) hok
where
 loop : ∀ (bs : List Trm) {rows rs : List (List D)} {K : D} {i : Nat} {bx : List Box} {c : Box},IsS 3 rows K -> rows.drop i = rs -> IsT.IsTs bs rs -> rows.length < 9223372036854775808 -> c.all (cellLt (bx.length + 1)) = true →
  ev cfg (.loop 160 6 (qs bx (sh160_6 (.dat K) (I rows.length) (I i)) [c])) =
   some (if shapT.go bs = true then .loop (.exit 0) (qs bx (se160_6 .dead) [c]) else .loop .ret (qs bx (se160_6 (B false)) [c]))
 | [],rows,rs,K,i,bx,c,hK,hr,hbs,hmax,hc => by
  rw [IsT.IsTs] at hbs
  subst hbs
  rw [shapT.go,if_pos rfl]
  exact es (e66 hc (drop_nil hr))
 | b :: bs,rows,rs,K,i,bx,c,hK,hr,hbs,hmax,hc => by
  rw [IsT.IsTs] at hbs
  obtain ⟨op,n,K',rest,rfl,hB,hrest⟩ := hbs
  obtain ⟨hget,hr',hlt⟩ := drop_cons hr
  have h1 := r66 hK hc hget hlt hmax (isT_one hB) (form_ev b hB)
  rw [shapT.go]
  cases hb : shapT b with
  | true =>
   rw [hb,if_pos rfl] at h1
   rw [Bool.true_and]
   exact es (h1.trans (loop bs (i := i + 1) hK hr' hrest hmax hc))
  | false =>
   rw [hb,if_neg (by decide)] at h1
   rw [Bool.false_and,if_neg (by decide)]
   exact es h1
theorem rwrong_ev (b : Trm) {op n : Int} {K : D} (h : IsT b op n K) (hz : sizeT b <= 1000000) (bx : List Box) : ev cfg (.call 141 [Tq op n K] bx) = Rq (I (wrongT b)) := by
 obtain ⟨r,hK⟩ := isT_K h
 rw [es (f45 hK (dep_ev b h hz) (form_ev b h)),wrongT,deepT_dep]
 have : decide (1 + depT b > 25) = decide (depT b > 24) := by rw [Bool.eq_iff_iff]; simp only [dqE]; omega
 rw [this]
theorem okTy_ev : ∀ (b : Trm) {op n : Int} {K : D},IsT b op n K -> Cq 142 [Tq op n K] (B (okTy b))
 | .mk _ _ ks,op,n,K,h,bx => by
  rw [IsT] at h
  obtain ⟨rfl,rfl,_,_,rows,hK,hks,hmax⟩ := h
  rw [okTy]
  exact es (f46 hK fun c hc => loop ks (i := 0) hK rfl hks (by rw [isTs_len hks]; exact hmax) hc)
where
 loop : ∀ (bs : List Trm) {rows rs : List (List D)} {K : D} {a : Bool} {i : Nat} {bx : List Box} {c : Box},IsS 3 rows K -> rows.drop i = rs -> IsT.IsTs bs rs -> rows.length < 9223372036854775808 -> c.all (cellLt (bx.length + 1)) = true →
  ev cfg (.loop 142 3 (qs bx (sh142_3 (B a) (.dat K) (I rows.length) (I i)) [c])) =
   some (if okTy.go a bs = true then .loop (.exit 0) (qs bx (se142_3 .dead) [c]) else .loop .ret (qs bx (se142_3 (B false)) [c]))
 | [],rows,rs,K,a,i,bx,c,hK,hr,hbs,hmax,hc => by
  rw [IsT.IsTs] at hbs
  subst hbs
  rw [okTy.go,if_pos rfl]
  exact es (e46 hc (drop_nil hr))
 | .mk op0 n0 ks0 :: bs,rows,rs,K,a,i,bx,c,hK,hr,hbs,hmax,hc => by
  rw [IsT.IsTs] at hbs
  obtain ⟨op,n,K',rest,rfl,hB,hrest⟩ := hbs
  obtain ⟨hget,hr',hlt⟩ := drop_cons hr
  have e : op = op0 := by rw [IsT] at hB; exact hB.1
  subst e
  have h1 := r46 (a := a) hK hc hget hlt hmax (isT_one hB) (fun bx => es f47) (okTy_ev (.mk op n0 ks0) hB)
  rw [okTy.go]
  cases hb : (truth op == a) && okTy (.mk op n0 ks0) with
  | true =>
   rw [hb,if_pos rfl] at h1
   rw [Bool.true_and]
   exact es (h1.trans (loop bs (i := i + 1) hK hr' hrest hmax hc))
  | false =>
   rw [hb,if_neg (by decide)] at h1
   rw [Bool.false_and,if_neg (by decide)]
   exact es h1
theorem typT_okTy : ∀ (b : Trm) {op n : Int} {ks : List Trm},b = .mk op n ks -> shapT b = true -> typT b = if okTy b = true then tyOf (truth op) else 0
 | .mk op n ks,op',n',ks',e,hs => by
  cases e
  rw [shapT,Bool.and_eq_true] at hs
  rw [typT,okTy]
  by_cases e : op = 1 ∨ op = 2
  ·rw [if_pos e]
   have hl : ks = [] := by
    rcases e with rfl | rfl
    ·have := hs.1; rw [nodeOk_1] at this; simp at this; exact this.1.1
    ·have := hs.1; rw [nodeOk_2] at this; simp at this; exact this.1.1
   subst hl
   rw [okTy.go,if_pos rfl]
   rcases e with rfl | rfl <;> rfl
  ·rw [if_neg e,go op ks hs.2]
where
 go (op : Int) : ∀ (bs : List Trm),shapT.go bs = true -> typT.go op bs = okTy.go (asked op) bs
 | [],_ => by rw [typT.go,okTy.go]
 | .mk o n ks :: bs,hs => by
  rw [shapT.go,Bool.and_eq_true] at hs
  rw [typT.go,okTy.go,go op bs hs.2,typT_okTy (.mk o n ks) rfl hs.1]
  congr 1
  cases okTy (.mk o n ks) <;> cases truth o <;> cases asked op <;> rfl
theorem rcheck_ev (b : Trm) {op n : Int} {K : D} (h : IsT b op n K) (hz : sizeT b <= 1000000) (bx : List Box) : ev cfg (.call 117 [Tq op n K] bx) = Rq (.tup [I (checkT b).1,I (checkT b).2]) := by
 obtain ⟨r,hK⟩ := isT_K h
 unfold checkT
 by_cases hw : wrongT b = 0
 ·rw [if_pos hw]
  have hw' := rwrong_ev b h hz
  rw [hw] at hw'
  have e : ∃ ks,b = .mk op n ks := by
   cases b with
   | mk o m ks => rw [IsT] at h; obtain ⟨rfl,rfl,_⟩ := h; exact ⟨ks,rfl⟩
  obtain ⟨ks,e⟩ := e
  rw [es (f22_ok hK hw' (okTy_ev b h) fun bx => es f47),typT_okTy b e (wrongT_zero hw).2]
  cases okTy b with
  | true =>
   have : ¬ tyOf (truth op) = 0 := by cases truth op <;> decide
   rw [if_pos rfl,if_pos rfl,if_neg this]
  | false => rfl
 ·rw [if_neg hw]
  exact es (f22_bad hK (by simpa using hw) (rwrong_ev b h hz))
set_option maxHeartbeats 4000000
section
variable {bx : List Box} {os ws cs gs : List (List D)} {i l : Nat} {s to b_ la lv : Int}
theorem fround_i0 (hl : l < bx.length) {z0 z1 z2 z3 z4 : Box} (y0 : z0.all (cellLt (bx.length + 5)) = true) (y1 : z1.all (cellLt (bx.length + 5)) = true) (y2 : z2.all (cellLt (bx.length + 5)) = true) (y3 : z3.all (cellLt (bx.length + 5)) = true) (y4 : z4.all (cellLt (bx.length + 5)) = true) (hget : ws[i]? = some [dI to,dI b_,dI la]) (hlt : i < ws.length) (hmax : ws.length < 9223372036854775808) (hb2 : decide (b_ >= 0) = false) :
  Jq (.loop 64 18 (qs bx (sh64_18 (.ptr l 0) (I s) (.own true 1 os) (I lv) (P4 bx) (.own true 1 cs) (.own true 1 gs) (.own true 3 ws) (I ws.length) (I i)) [z0,z1,z2,z3,z4])) =
   ev cfg (.loop 64 18 (qs bx (sh64_18 (.ptr l 0) (I s) (.own true 1 os) (I lv) (P4 bx) (.own true 1 cs) (.own true 1 gs) (.own true 3 ws) (I ws.length) (I ((i + 1 : Nat) : Int))) [z0,z1,z2,z3,z4])) := by
 simp (maxSteps := 2000000) only [go_sem,seval,hl,nat_lt hlt,nat_neg,tnc,hget,hlt,hb2,y0,y1,y2,y3,y4,nat_succ hlt hmax]
theorem fround_i1 (hl : l < bx.length) {z0 z1 z2 z3 z4 : Box} (y0 : z0.all (cellLt (bx.length + 5)) = true) (y1 : z1.all (cellLt (bx.length + 5)) = true) (y2 : z2.all (cellLt (bx.length + 5)) = true) (y3 : z3.all (cellLt (bx.length + 5)) = true) (y4 : z4.all (cellLt (bx.length + 5)) = true) (hget : ws[i]? = some [dI to,dI b_,dI la]) (hlt : i < ws.length) (hmax : ws.length < 9223372036854775808) (hb2 : decide (b_ >= 0) = true) (hgs : (gs.length + 1) * 8 <= 140737488355328) :
  Jq (.loop 64 18 (qs bx (sh64_18 (.ptr l 0) (I s) (.own true 1 os) (I lv) (P4 bx) (.own true 1 cs) (.own true 1 gs) (.own true 3 ws) (I ws.length) (I i)) [z0,z1,z2,z3,z4])) =
   ev cfg (.loop 64 18 (qs bx (sh64_18 (.ptr l 0) (I s) (.own true 1 os) (I lv) (P4 bx) (.own true 1 cs) (.own true 1 (gs ++ [[dI b_]])) (.own true 3 ws) (I ws.length) (I ((i + 1 : Nat) : Int))) [z0,z1,z2,z3,z4])) := by
 simp (maxSteps := 2000000) only [go_sem,seval,hl,nat_lt hlt,nat_neg,tnc,hget,hlt,hb2,y0,y1,y2,y3,y4,nat_succ hlt hmax,hgs]
theorem fround_iend (hl : l < bx.length) {z0 z1 z2 z3 z4 : Box} (y0 : z0.all (cellLt (bx.length + 5)) = true) (y1 : z1.all (cellLt (bx.length + 5)) = true) (y2 : z2.all (cellLt (bx.length + 5)) = true) (y3 : z3.all (cellLt (bx.length + 5)) = true) (y4 : z4.all (cellLt (bx.length + 5)) = true) {m : Nat} (hge : m <= i) :
  Jq (.loop 64 18 (qs bx (sh64_18 (.ptr l 0) (I s) (.own true 1 os) (I lv) (P4 bx) (.own true 1 cs) (.own true 1 gs) (.own true 3 ws) (I m) (I i)) [z0,z1,z2,z3,z4])) = some (.loop (.exit 2) (qs bx (se64_18 (.ptr l 0) (I s) (.own true 1 os) (I lv) (P4 bx) (.own true 1 cs) (.own true 1 gs)) [z0,z1,z2,z3,z4])) := by
 simp (maxSteps := 2000000) only [go_sem,seval,hl,nat_ge hge,y0,y1,y2,y3,y4]
end
end Go.Proofs.YtifckjhggamefaaGreatDoor
