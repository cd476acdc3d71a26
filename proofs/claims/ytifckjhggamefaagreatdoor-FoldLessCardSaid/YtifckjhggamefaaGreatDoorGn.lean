/- What the blocks' functions answer: depth, size, wrong, texts. No condition. -/
import Derived.Test.YtifckjhggamefaaGreatDoorGc
import Derived.Test.YtifckjhggamefaaGreatDoorGf
import Derived.Test.YtifckjhggamefaaGreatDoorGe
set_option linter.unusedSimpArgs false
set_option linter.unusedVariables false
set_option linter.unusedSectionVars false
namespace Go.Proofs.YtifckjhggamefaaGreatDoor
open Go Go.Vx
set_option maxRecDepth 10000
def sizeB : Blk -> Int
 | .mk _ _ _ ks _ => 1 + go ks
where
 go : List Blk -> Int
 | [] => 0
 | b :: bs => sizeB b + go bs
def deepB : Blk -> Int
 | .mk _ _ _ ks _ => go 0 ks + 1
where
 go (m : Int) : List Blk -> Int
 | [] => m
 | b :: bs => go (if m < deepB b then deepB b else m) bs
theorem sizeB_pos : ∀ b,1 <= sizeB b
 | .mk _ _ _ ks _ => by rw [sizeB]; have := go ks; omega
where
 go : ∀ bs,0 <= sizeB.go bs
 | [] => by rw [sizeB.go]; omega
 | b :: bs => by rw [sizeB.go]; have := sizeB_pos b; have := go bs; omega
theorem deepB_le : ∀ b,1 <= deepB b /\ deepB b <= sizeB b
 | .mk _ _ _ ks _ => by rw [sizeB,deepB]; have := go ks 0 (by omega); omega
where
 go : ∀ (bs : List Blk) (m : Int),0 <= m -> m <= deepB.go m bs /\ deepB.go m bs <= m + sizeB.go bs
 | [],m,h => by rw [sizeB.go,deepB.go]; omega
 | b :: bs,m,h => by
  rw [sizeB.go,deepB.go]
  have h1 := deepB_le b
  have h2 := sizeB_pos.go bs
  split
  ·have := go bs (deepB b) (by omega); omega
  ·have := go bs m h; omega
theorem isB_K {b : Blk} {k n a : Int} {K L : D} (h : IsB b k n a K L) : (∃ r,IsS 5 r K) /\ ∃ r,IsS 3 r L := by
 cases b
 rw [IsB] at h
 obtain ⟨_,_,_,_,_,_,rows,h1,_,_,h2,_⟩ := h
 exact ⟨⟨_,h1⟩,⟨_,h2⟩⟩
theorem deep_ev : ∀ (b : Blk) {k n a : Int} {K L : D},IsB b k n a K L -> sizeB b <= 1000000 -> Cq 71 [Wq k n a K L] (I (deepB b))
 | .mk k n a ks ls,_,_,_,K,L,h,hz,bx => by
  rw [IsB] at h
  obtain ⟨rfl,rfl,rfl,_,_,_,rows,hK,hks,hmax,hL,_,_⟩ := h
  have hd := deepB_le.go ks 0 (by omega)
  rw [sizeB] at hz
  rw [deepB]
  exact es (f57 hK hL (wrap_lo (by omega) (by omega)) fun c hc => loop ks (i := 0) (m := 0) hK rfl hks (by rw [isBs_len hks]; exact hmax) (by omega) hc)
where
 loop : ∀ (bs : List Blk) {rows rs : List (List D)} {K : D} {m : Int} {i : Nat} {bx : List Box} {c : Box},IsS 5 rows K -> rows.drop i = rs -> IsB.IsBs bs rs -> rows.length < 9223372036854775808 -> sizeB.go bs <= 1000000 -> c.all (cellLt (bx.length + 1)) = true →
  ev cfg (.loop 71 3 (qs bx (sh71_3 (I m) (.dat K) (I rows.length) (I i)) [c])) = some (.loop (.exit 0) (qs bx (se71_3 (I (deepB.go m bs))) [c]))
 | [],rows,rs,K,m,i,bx,c,hK,hr,hbs,hmax,hz,hc => by
  rw [IsB.IsBs] at hbs
  subst hbs
  rw [deepB.go]
  exact es (e57 hc (drop_nil hr))
 | b :: bs,rows,rs,K,m,i,bx,c,hK,hr,hbs,hmax,hz,hc => by
  rw [IsB.IsBs] at hbs
  obtain ⟨k,n,a,K',L',rest,rfl,hB,hrest⟩ := hbs
  obtain ⟨hget,hr',hlt⟩ := drop_cons hr
  rw [sizeB.go] at hz
  have p1 := sizeB_pos b
  have p2 := sizeB_pos.go bs
  rw [deepB.go]
  exact es ((r57 hK hc hget hlt hmax (isB_one hB).1 (isB_one hB).2 (deep_ev b hB (by omega))).trans (loop bs (i := i + 1) hK hr' hrest hmax (by omega) hc))
theorem depth_ev : ∀ (b : Blk) {k n a : Int} {K L : D},IsB b k n a K L -> sizeB b <= 1000000 -> Cq 85 [Wq k n a K L] (I (deepB b))
 | .mk k n a ks ls,_,_,_,K,L,h,hz,bx => by
  rw [IsB] at h
  obtain ⟨rfl,rfl,rfl,_,_,_,rows,hK,hks,hmax,hL,_,_⟩ := h
  have hd := deepB_le.go ks 0 (by omega)
  rw [sizeB] at hz
  rw [deepB]
  exact es (f36 hK hL (wrap_lo (by omega) (by omega)) fun c hc => loop ks (i := 0) (m := 0) hK rfl hks (by rw [isBs_len hks]; exact hmax) (by omega) hc)
where
 loop : ∀ (bs : List Blk) {rows rs : List (List D)} {K : D} {m : Int} {i : Nat} {bx : List Box} {c : Box},IsS 5 rows K -> rows.drop i = rs -> IsB.IsBs bs rs -> rows.length < 9223372036854775808 -> sizeB.go bs <= 1000000 -> c.all (cellLt (bx.length + 1)) = true →
  ev cfg (.loop 85 3 (qs bx (sh85_3 (I m) (.dat K) (I rows.length) (I i)) [c])) = some (.loop (.exit 0) (qs bx (se85_3 (I (deepB.go m bs))) [c]))
 | [],rows,rs,K,m,i,bx,c,hK,hr,hbs,hmax,hz,hc => by
  rw [IsB.IsBs] at hbs
  subst hbs
  rw [deepB.go]
  exact es (e36 hc (drop_nil hr))
 | b :: bs,rows,rs,K,m,i,bx,c,hK,hr,hbs,hmax,hz,hc => by
  rw [IsB.IsBs] at hbs
  obtain ⟨k,n,a,K',L',rest,rfl,hB,hrest⟩ := hbs
  obtain ⟨hget,hr',hlt⟩ := drop_cons hr
  rw [sizeB.go] at hz
  have p1 := sizeB_pos b
  have p2 := sizeB_pos.go bs
  rw [deepB.go]
  exact es ((r36 hK hc hget hlt hmax (isB_one hB).1 (isB_one hB).2 (depth_ev b hB (by omega))).trans (loop bs (i := i + 1) hK hr' hrest hmax (by omega) hc))
theorem rsize_ev : ∀ (b : Blk) {k n a : Int} {K L : D},IsB b k n a K L -> sizeB b <= 1000000 -> Cq 86 [Wq k n a K L] (I (sizeB b))
 | .mk k n a ks ls,_,_,_,K,L,h,hz,bx => by
  rw [IsB] at h
  obtain ⟨rfl,rfl,rfl,_,_,_,rows,hK,hks,hmax,hL,_,_⟩ := h
  rw [sizeB] at hz ⊢
  exact es (f16 hK hL fun c hc => loop ks (i := 0) (m := 1) hK rfl hks (by rw [isBs_len hks]; exact hmax) (by omega) (by omega) hc)
where
 loop : ∀ (bs : List Blk) {rows rs : List (List D)} {K : D} {m : Int} {i : Nat} {bx : List Box} {c : Box},IsS 5 rows K -> rows.drop i = rs -> IsB.IsBs bs rs -> rows.length < 9223372036854775808 -> 0 <= m -> m + sizeB.go bs <= 1000000 -> c.all (cellLt (bx.length + 1)) = true →
  ev cfg (.loop 86 3 (qs bx (sh86_3 (I m) (.dat K) (I rows.length) (I i)) [c])) = some (.loop (.exit 0) (qs bx (se86_3 (I (m + sizeB.go bs))) [c]))
 | [],rows,rs,K,m,i,bx,c,hK,hr,hbs,hmax,hm,hz,hc => by
  rw [IsB.IsBs] at hbs
  subst hbs
  rw [sizeB.go,Int.add_zero]
  exact es (e16 hc (drop_nil hr))
 | b :: bs,rows,rs,K,m,i,bx,c,hK,hr,hbs,hmax,hm,hz,hc => by
  rw [IsB.IsBs] at hbs
  obtain ⟨k,n,a,K',L',rest,rfl,hB,hrest⟩ := hbs
  obtain ⟨hget,hr',hlt⟩ := drop_cons hr
  rw [sizeB.go] at hz
  have p1 := sizeB_pos b
  have p2 := sizeB_pos.go bs
  rw [sizeB.go,<- Int.add_assoc]
  exact es ((r16 hK hc hget hlt hmax (isB_one hB).1 (isB_one hB).2 (wrap_lo (by omega) (by omega)) (rsize_ev b hB (by omega))).trans (loop bs (i := i + 1) hK hr' hrest hmax (by omega) (by omega) hc))
def eachB {σ : Type} (st : Blk -> σ -> σ) : Blk -> σ -> σ
 | .mk k n a ks ls,x => go ks (st (.mk k n a ks ls) x)
where
 go : List Blk -> σ -> σ
 | [],x => x
 | b :: bs,x => go bs (eachB st b x)
theorem each_ev {σ : Type} (em : σ -> Box) (st : Blk -> σ -> σ) (g : FuncId) (l : Nat)
  (hg : ∀ (b : Blk) (k n a : Int) (K L : D) (x : σ) (bx : List Box),IsB b k n a K L -> bx[l]? = some (em x) -> ev cfg (.call g [Wq k n a K L,.ptr l 0] bx) = some (.ret (.tup []) (some ⟨bx.set l (em (st b x)),l,false⟩))) :
  ∀ (b : Blk) {k n a : Int} {K L : D} {x : σ} {bx : List Box},IsB b k n a K L -> bx[l]? = some (em x) -> ev cfg (.call 76 [Wq k n a K L,.clo g [l]] bx) = some (.ret (.tup []) (some ⟨bx.set l (em (eachB st b x)),l,false⟩))
 | .mk _ _ _ ks ls,k,n,a,K,L,x,bx,h,hb => by
  have h0 := h
  rw [IsB] at h
  obtain ⟨rfl,rfl,rfl,_,_,_,rows,hK,hks,hmax,hL,_,_⟩ := h
  have hl : l < bx.length := (gsi.1 hb).1
  rw [eachB]
  refine es (f39 hK hL hl hb (fun bx' hb' => hg _ _ _ _ _ _ x bx' h0 hb') fun c hc => ?_)
  have := loop ks (bx := bx.set l (em (st (.mk k n a ks ls) x))) (x := st (.mk k n a ks ls) x) (i := 0) (c := c) hK rfl hks (by rw [isBs_len hks]; exact hmax) (by simp [hl]) (by simpa using hc) (some l) (.inr rfl) (.inl rfl)
  simp only [lls,List.set_set] at this
  exact this
where
 loop : ∀ (bs : List Blk) {rows rs : List (List D)} {K : D} {x : σ} {i : Nat} {bx : List Box} {c : Box},IsS 5 rows K -> rows.drop i = rs -> IsB.IsBs bs rs -> rows.length < 9223372036854775808 -> bx[l]? = some (em x) -> c.all (cellLt (bx.length + 1)) = true -> ∀ lo : Option Nat,lo = none ∨ lo = some l -> (lo = some l ∨ bs ≠ []) →
  ev cfg (.loop 76 3 ⟨(sh76_3 (.clo g [l]) (.dat K) (I rows.length) (I i)),bx ++ [c],bx.length,lo,false⟩) = some (.loop (.exit 0) ⟨(se76_3),bx.set l (em (eachB.go st bs x)) ++ [c],bx.length,some l,false⟩)
 | [],rows,rs,K,x,i,bx,c,hK,hr,hbs,hmax,hb,hc,lo,hlo,hne => by
  have hl : l < bx.length := (gsi.1 hb).1
  rw [IsB.IsBs] at hbs
  subst hbs
  rw [eachB.go,set_same hb]
  rcases hne with rfl | h
  ·exact es (e39 hl hc (drop_nil hr) _)
  ·exact absurd rfl h
 | b :: bs,rows,rs,K,x,i,bx,c,hK,hr,hbs,hmax,hb,hc,lo,hlo,_ => by
  have hl : l < bx.length := (gsi.1 hb).1
  rw [IsB.IsBs] at hbs
  obtain ⟨k,n,a,K',L',rest,rfl,hB,hrest⟩ := hbs
  obtain ⟨hget,hr',hlt⟩ := drop_cons hr
  rw [eachB.go]
  have h1 := r39 (g := g) hK hl hb hc hget hlt hmax (isB_one hB).1 (isB_one hB).2 lo hlo fun bx' hb' => each_ev em st g l hg b hB hb'
  have h2 := loop bs (bx := bx.set l (em (eachB st b x))) (x := eachB st b x) (i := i + 1) (c := c) hK hr' hrest hmax (by simp [hl]) (by simpa using hc) (some l) (.inr rfl) (.inl rfl)
  simp only [lls,List.set_set] at h2
  exact es (h1.trans h2)
set_option maxHeartbeats 4000000
section
variable {bx : List Box} {fr rows lr xr : List (List D)} {N F K L X : D} {i : Nat} {k a n x y : Int}
theorem intIdx_round (hX : IsS 1 xr X) (hget : xr[i]? = some [dI y]) (hlt : i < xr.length) (hmax : xr.length < 9223372036854775808) :
  Jq (.loop 81 2 (q0 bx (sh81_2 (.dat X) (I x) (I xr.length) (I i)))) =
   if (x == y) = true then some (.loop .ret (q0 bx (se81_2 (I i)))) else ev cfg (.loop 81 2 (q0 bx (sh81_2 (.dat X) (I x) (I xr.length) (I ((i + 1 : Nat) : Int))))) := by
 obtain ⟨w,h1,h2,h3⟩ := hX
 obtain rfl := isS_w h2 hget
 cases c0 : (x == y) <;> simp only [go_sem,seval,h1,h3,nat_lt hlt,nat_neg,tnc,hget,nat_succ hlt hmax,c0]
theorem intIdx_stop (hX : Oq X) {m : Nat} (hge : m <= i) :
  Jq (.loop 81 2 (q0 bx (sh81_2 (.dat X) (I x) (I m) (I i)))) = some (.loop (.exit 0) (q0 bx (se81_2 .dead))) := by
 simp only [go_sem,seval,hX,nat_ge hge]
theorem intIdx_call {y : Option Nat} (hX : IsS 1 xr X)
  (hloop : ev cfg (.loop 81 2 (q0 bx (sh81_2 (.dat X) (I x) (I xr.length) (I 0)))) = some (match y with
   | some j => .loop .ret (q0 bx (se81_2 (I j)))
   | none => .loop (.exit 0) (q0 bx (se81_2 .dead)))) :
  Jq (.call 81 [.dat X,I x] bx) = Rq (I (match y with | some j => (j : Int) | none => -1)) := by
 obtain ⟨w,h1,h2,h3⟩ := hX
 cases y <;> simp only at hloop <;> simp only [go_sem,seval,h1,h3,hloop]
theorem intHas_call {y : Int} (hX : Oq X) (hc : ev cfg (.call 81 [.dat X,I x] bx) = Rq (I y)) :
  Jq (.call 49 [.dat X,I x] bx) = Rq (B (decide (y >= 0))) := by
 simp only [go_sem,seval,hX,hc]
theorem blink_ok {ins outs f t w : Int} (hN : Oq N) (hF : IsS 6 fr F) (hK : IsS 5 rows K) (hL : IsS 3 lr L) (hget : lr[i]? = some [dI f,dI t,dI w]) (hlt : i < lr.length) (hmax : lr.length < 9223372036854775808) (e1 : decide (f < -1) = false) (e2 : decide (f >= (rows.length : Int)) = false) (e3 : decide (t < -1) = false) (e4 : decide (t >= (rows.length : Int)) = false) (e5 : decide (w < 0) = false) (e6 : decide (w >= (fr.length : Int)) = false) (w1 : IntKind.wrap .i64 (ins + 1) = ins + 1) (w2 : IntKind.wrap .i64 (outs + 1) = outs + 1) :
  Jq (.loop 121 3 (qs bx (sh121_3 (P0 bx) (P1 bx) (I ins) (I outs) (.dat L) (I lr.length) (I i)) [Nb N F,Wx k n a K L])) =
   ev cfg (.loop 121 3 (qs bx (sh121_3 (P0 bx) (P1 bx) (I (if f < 0 then ins + 1 else ins)) (I (if t < 0 then outs + 1 else outs)) (.dat L) (I lr.length) (I ((i + 1 : Nat) : Int))) [Nb N F,Wx k n a K L])) := by
 obtain ⟨w4,h1,h2,h3⟩ := hL
 obtain rfl := isS_w h2 hget
 obtain ⟨w5,g1,g2,g3⟩ := hF
 obtain ⟨w6,q1,q2,q3⟩ := hK
 cases c0 : decide (f < 0)
 ·cases c1 : decide (t < 0)
  ·rw [if_neg (by simpa using c0),if_neg (by simpa using c1)]; simp only [go_sem,seval,h1,h3,g1,g3,q1,q3,hN,nat_lt hlt,nat_neg,tnc,hget,e1,e2,e3,e4,e5,e6,w1,w2,nat_succ hlt hmax,c0,c1]
  ·rw [if_neg (by simpa using c0),if_pos (by simpa using c1)]; simp only [go_sem,seval,h1,h3,g1,g3,q1,q3,hN,nat_lt hlt,nat_neg,tnc,hget,e1,e2,e3,e4,e5,e6,w1,w2,nat_succ hlt hmax,c0,c1]
 ·cases c1 : decide (t < 0)
  ·rw [if_pos (by simpa using c0),if_neg (by simpa using c1)]; simp only [go_sem,seval,h1,h3,g1,g3,q1,q3,hN,nat_lt hlt,nat_neg,tnc,hget,e1,e2,e3,e4,e5,e6,w1,w2,nat_succ hlt hmax,c0,c1]
  ·rw [if_pos (by simpa using c0),if_pos (by simpa using c1)]; simp only [go_sem,seval,h1,h3,g1,g3,q1,q3,hN,nat_lt hlt,nat_neg,tnc,hget,e1,e2,e3,e4,e5,e6,w1,w2,nat_succ hlt hmax,c0,c1]
theorem blink_end {ins outs : Int} {m : Nat} (hN : Oq N) (hF : Oq F) (hK : Oq K) (hL : Oq L) (hge : m <= i) :
  Jq (.loop 121 3 (qs bx (sh121_3 (P0 bx) (P1 bx) (I ins) (I outs) (.dat L) (I m) (I i)) [Nb N F,Wx k n a K L])) =
   some (.loop (.exit 0) (qs bx (se121_3 (P1 bx) .dead (I ins) (I outs)) [Nb N F,Wx k n a K L])) := by
 simp only [go_sem,seval,hN,hF,hK,hL,nat_ge hge]
theorem blink_fno {ins outs : Int} (hN : Oq N) (hF : Oq F) (hK : Oq K) (hL : IsS 3 lr L)
  (hloop : ev cfg (.loop 121 3 (qs bx (sh121_3 (P0 bx) (P1 bx) (I 0) (I 0) (.dat L) (I lr.length) (I 0)) [Nb N F,Wx k n a K L])) =
   some (.loop .ret (qs bx (se121_3 (P1 bx) (B false) (I ins) (I outs)) [Nb N F,Wx k n a K L]))) :
  Jq (.call 121 [Nq N F,Wq k n a K L] bx) = Rq (B false) := by
 obtain ⟨w1,h1,h2,h3⟩ := hL
 simp only [go_sem,seval,h1,h3,hN,hF,hK,hloop]
theorem blink_f {ins outs : Int} (hN : Oq N) (hF : Oq F) (hK : Oq K) (hL : IsS 3 lr L)
  (hloop : ev cfg (.loop 121 3 (qs bx (sh121_3 (P0 bx) (P1 bx) (I 0) (I 0) (.dat L) (I lr.length) (I 0)) [Nb N F,Wx k n a K L])) =
   some (.loop (.exit 0) (qs bx (se121_3 (P1 bx) .dead (I ins) (I outs)) [Nb N F,Wx k n a K L]))) :
  Jq (.call 121 [Nq N F,Wq k n a K L] bx) = Rq (B (ins == 1 && (outs == 1 && decide ((lr.length : Int) <= 40)))) := by
 obtain ⟨w1,h1,h2,h3⟩ := hL
 cases c0 : (ins == 1)
 ·simp only [go_sem,seval,h1,h3,hN,hF,hK,hloop,c0]
 ·cases c1 : (outs == 1)
  ·simp only [go_sem,seval,h1,h3,hN,hF,hK,hloop,c0,c1]
  ·simp only [go_sem,seval,h1,h3,hN,hF,hK,hloop,c0,c1]
end
section
variable {bx : List Box} {nr lr rows : List (List D)} {N F K L : D} {k a n : Int}
theorem bright_no (hN : IsS 5 nr N) (hF : Oq F) (hK : IsS 5 rows K) (hL : IsS 3 lr L) (hb : (((a != 0) && ((k != 7) || (a != 1))) || (decide ((lr.length : Int) > 0) && (k != 9))) = true) :
  Jq (.call 73 [Nq N F,Wq k n a K L] bx) = Rq (B (false)) := by
 obtain ⟨w1,h1,h2,h3⟩ := hN
 obtain ⟨w2,q1,q2,q3⟩ := hK
 obtain ⟨w3,l1,l2,l3⟩ := hL
 cases c0 : (a != 0)
 ·cases c1 : decide ((lr.length : Int) > 0)
  ·simp only [c0,c1,Bool.false_and,Bool.true_and,Bool.and_false,Bool.and_true,Bool.false_or,Bool.or_false,Bool.false_eq_true,Bool.true_eq_false] at hb
  ·cases c2 : (k != 9)
   ·simp only [c0,c1,c2,Bool.false_and,Bool.true_and,Bool.and_false,Bool.and_true,Bool.false_or,Bool.or_false,Bool.false_eq_true,Bool.true_eq_false] at hb
   ·simp only [go_sem,seval,h1,h3,hF,q1,q3,l1,l3,nat_neg,tnc,c0,c1,c2]
 ·cases c1 : (k != 7)
  ·cases c2 : (a != 1)
   ·cases c3 : decide ((lr.length : Int) > 0)
    ·simp only [c0,c1,c2,c3,Bool.false_and,Bool.true_and,Bool.and_false,Bool.and_true,Bool.false_or,Bool.or_false,Bool.false_eq_true,Bool.true_eq_false] at hb
    ·cases c4 : (k != 9)
     ·simp only [c0,c1,c2,c3,c4,Bool.false_and,Bool.true_and,Bool.and_false,Bool.and_true,Bool.false_or,Bool.or_false,Bool.false_eq_true,Bool.true_eq_false] at hb
     ·simp only [go_sem,seval,h1,h3,hF,q1,q3,l1,l3,nat_neg,tnc,c0,c1,c2,c3,c4]
   ·simp only [go_sem,seval,h1,h3,hF,q1,q3,l1,l3,nat_neg,tnc,c0,c1,c2]
  ·simp only [go_sem,seval,h1,h3,hF,q1,q3,l1,l3,nat_neg,tnc,c0,c1]
end
section
variable {bx : List Box} {nr lr rows : List (List D)} {N F K L : D} {k n : Int} {v : Bool}
theorem bright_3 (hN : IsS 5 nr N) (hF : Oq F) (hK : IsS 5 rows K) (hL : IsS 3 lr L) (hl : decide ((lr.length : Int) > 0) = false) (hv : Cq 74 [.dat K,.clo 119 []] (B v)) :
  Jq (.call 73 [Nq N F,Wq 3 n 0 K L] bx) = Rq (B (n == 0 && (decide ((rows.length : Int) > 1) && !v))) := by
 obtain ⟨w1,h1,h2,h3⟩ := hN
 obtain ⟨w2,q1,q2,q3⟩ := hK
 obtain ⟨w3,l1,l2,l3⟩ := hL
 cases c0 : decide (n >= 0)
 ·cases c1 : (n == 0)
  ·simp only [go_sem,seval,h1,h3,hF,q1,q3,l1,l3,nat_neg,tnc,hl,hv,c0,c1]
  ·cases c2 : decide ((rows.length : Int) > 1)
   ·simp only [go_sem,seval,h1,h3,hF,q1,q3,l1,l3,nat_neg,tnc,hl,hv,c0,c1,c2]
   ·simp only [go_sem,seval,h1,h3,hF,q1,q3,l1,l3,nat_neg,tnc,hl,hv,c0,c1,c2]
 ·cases c1 : (n == 0)
  ·simp only [go_sem,seval,h1,h3,hF,q1,q3,l1,l3,nat_neg,tnc,hl,hv,c0,c1]
  ·cases c2 : decide ((rows.length : Int) > 1)
   ·simp only [go_sem,seval,h1,h3,hF,q1,q3,l1,l3,nat_neg,tnc,hl,hv,c0,c1,c2]
   ·simp only [go_sem,seval,h1,h3,hF,q1,q3,l1,l3,nat_neg,tnc,hl,hv,c0,c1,c2]
theorem bright_4 (hN : IsS 5 nr N) (hF : Oq F) (hK : IsS 5 rows K) (hL : IsS 3 lr L) (hl : decide ((lr.length : Int) > 0) = false) (hv : Cq 120 [Nq N F,I n,I 6,I rows.length] (B v)) :
  Jq (.call 73 [Nq N F,Wq 4 n 0 K L] bx) = Rq (B (v)) := by
 obtain ⟨w1,h1,h2,h3⟩ := hN
 obtain ⟨w2,q1,q2,q3⟩ := hK
 obtain ⟨w3,l1,l2,l3⟩ := hL
 cases c0 : decide (n >= 0)
 ·simp only [go_sem,seval,h1,h3,hF,q1,q3,l1,l3,nat_neg,tnc,hl,hv,c0]
 ·simp only [go_sem,seval,h1,h3,hF,q1,q3,l1,l3,nat_neg,tnc,hl,hv,c0]
theorem bright_5 (hN : IsS 5 nr N) (hF : Oq F) (hK : IsS 5 rows K) (hL : IsS 3 lr L) (hl : decide ((lr.length : Int) > 0) = false) (hv : Cq 120 [Nq N F,I n,I 5,I rows.length] (B v)) :
  Jq (.call 73 [Nq N F,Wq 5 n 0 K L] bx) = Rq (B (v)) := by
 obtain ⟨w1,h1,h2,h3⟩ := hN
 obtain ⟨w2,q1,q2,q3⟩ := hK
 obtain ⟨w3,l1,l2,l3⟩ := hL
 cases c0 : decide (n >= 0)
 ·simp only [go_sem,seval,h1,h3,hF,q1,q3,l1,l3,nat_neg,tnc,hl,hv,c0]
 ·simp only [go_sem,seval,h1,h3,hF,q1,q3,l1,l3,nat_neg,tnc,hl,hv,c0]
theorem bright_6 (hN : IsS 5 nr N) (hF : Oq F) (hK : IsS 5 rows K) (hL : IsS 3 lr L) (hl : decide ((lr.length : Int) > 0) = false) (hv : Cq 120 [Nq N F,I n,I 7,I rows.length] (B v)) :
  Jq (.call 73 [Nq N F,Wq 6 n 0 K L] bx) = Rq (B (v)) := by
 obtain ⟨w1,h1,h2,h3⟩ := hN
 obtain ⟨w2,q1,q2,q3⟩ := hK
 obtain ⟨w3,l1,l2,l3⟩ := hL
 cases c0 : decide (n >= 0)
 ·simp only [go_sem,seval,h1,h3,hF,q1,q3,l1,l3,nat_neg,tnc,hl,hv,c0]
 ·simp only [go_sem,seval,h1,h3,hF,q1,q3,l1,l3,nat_neg,tnc,hl,hv,c0]
theorem bright_o (hN : IsS 5 nr N) (hF : Oq F) (hK : IsS 5 rows K) (hL : IsS 3 lr L) (hl : decide ((lr.length : Int) > 0) = false) (k1 : (k == 1) = false) (k10 : (k == 10) = false) (k2 : (k == 2) = false) (k8 : (k == 8) = false) (k3 : (k == 3) = false) (k4 : (k == 4) = false) (k5 : (k == 5) = false) (k6 : (k == 6) = false) (k7 : (k == 7) = false) (k9 : (k == 9) = false) :
  Jq (.call 73 [Nq N F,Wq k n 0 K L] bx) = Rq (B (false)) := by
 obtain ⟨w1,h1,h2,h3⟩ := hN
 obtain ⟨w2,q1,q2,q3⟩ := hK
 obtain ⟨w3,l1,l2,l3⟩ := hL
 cases c0 : decide (n >= 0)
 ·simp only [go_sem,seval,h1,h3,hF,q1,q3,l1,l3,nat_neg,tnc,hl,k1,k10,k2,k8,k3,k4,k5,k6,k7,k9,c0]
 ·simp only [go_sem,seval,h1,h3,hF,q1,q3,l1,l3,nat_neg,tnc,hl,k1,k10,k2,k8,k3,k4,k5,k6,k7,k9,c0]
end
section
variable {bx : List Box} {nr lr rows : List (List D)} {N F K L : D} {a n : Int} {v : Bool}
theorem bright_7 (hN : IsS 5 nr N) (hF : Oq F) (hK : IsS 5 rows K) (hL : IsS 3 lr L) (hl : decide ((lr.length : Int) > 0) = false) (hb : ((a != 0) && (a != 1)) = false) (hv : Cq 120 [Nq N F,I n,I 5,I rows.length] (B v)) :
  Jq (.call 73 [Nq N F,Wq 7 n a K L] bx) = Rq (B ((rows.length : Int) == 2 && v)) := by
 obtain ⟨w1,h1,h2,h3⟩ := hN
 obtain ⟨w2,q1,q2,q3⟩ := hK
 obtain ⟨w3,l1,l2,l3⟩ := hL
 cases c0 : (a != 0)
 ·cases c1 : decide (n >= 0)
  ·cases c2 : ((rows.length : Int) == 2)
   ·simp only [go_sem,seval,h1,h3,hF,q1,q3,l1,l3,nat_neg,tnc,hl,hv,c0,c1,c2]
   ·simp only [go_sem,seval,h1,h3,hF,q1,q3,l1,l3,nat_neg,tnc,hl,hv,c0,c1,c2]
  ·cases c2 : ((rows.length : Int) == 2)
   ·simp only [go_sem,seval,h1,h3,hF,q1,q3,l1,l3,nat_neg,tnc,hl,hv,c0,c1,c2]
   ·simp only [go_sem,seval,h1,h3,hF,q1,q3,l1,l3,nat_neg,tnc,hl,hv,c0,c1,c2]
 ·cases c1 : (a != 1)
  ·cases c2 : decide (n >= 0)
   ·cases c3 : ((rows.length : Int) == 2)
    ·simp only [go_sem,seval,h1,h3,hF,q1,q3,l1,l3,nat_neg,tnc,hl,hv,c0,c1,c2,c3]
    ·simp only [go_sem,seval,h1,h3,hF,q1,q3,l1,l3,nat_neg,tnc,hl,hv,c0,c1,c2,c3]
   ·cases c3 : ((rows.length : Int) == 2)
    ·simp only [go_sem,seval,h1,h3,hF,q1,q3,l1,l3,nat_neg,tnc,hl,hv,c0,c1,c2,c3]
    ·simp only [go_sem,seval,h1,h3,hF,q1,q3,l1,l3,nat_neg,tnc,hl,hv,c0,c1,c2,c3]
  ·simp only [c0,c1,Bool.false_and,Bool.true_and,Bool.and_false,Bool.and_true,Bool.false_or,Bool.or_false,Bool.false_eq_true,Bool.true_eq_false] at hb
end
section
variable {bx : List Box} {nr lr rows : List (List D)} {N F K L : D} {n : Int}
theorem bright_1 (hN : IsS 5 nr N) (hF : Oq F) (hK : IsS 5 rows K) (hL : IsS 3 lr L) (hl : decide ((lr.length : Int) > 0) = false) :
  Jq (.call 73 [Nq N F,Wq 1 n 0 K L] bx) = Rq (B (n == 0 && (rows.length : Int) == 0)) := by
 obtain ⟨w1,h1,h2,h3⟩ := hN
 obtain ⟨w2,q1,q2,q3⟩ := hK
 obtain ⟨w3,l1,l2,l3⟩ := hL
 cases c0 : decide (n >= 0)
 ·cases c1 : (n == 0)
  ·simp only [go_sem,seval,h1,h3,hF,q1,q3,l1,l3,nat_neg,tnc,hl,c0,c1]
  ·simp only [go_sem,seval,h1,h3,hF,q1,q3,l1,l3,nat_neg,tnc,hl,c0,c1]
 ·cases c1 : (n == 0)
  ·simp only [go_sem,seval,h1,h3,hF,q1,q3,l1,l3,nat_neg,tnc,hl,c0,c1]
  ·simp only [go_sem,seval,h1,h3,hF,q1,q3,l1,l3,nat_neg,tnc,hl,c0,c1]
theorem bright_10 (hN : IsS 5 nr N) (hF : Oq F) (hK : IsS 5 rows K) (hL : IsS 3 lr L) (hl : decide ((lr.length : Int) > 0) = false) :
  Jq (.call 73 [Nq N F,Wq 10 n 0 K L] bx) = Rq (B (n == 0 && (rows.length : Int) == 0)) := by
 obtain ⟨w1,h1,h2,h3⟩ := hN
 obtain ⟨w2,q1,q2,q3⟩ := hK
 obtain ⟨w3,l1,l2,l3⟩ := hL
 cases c0 : decide (n >= 0)
 ·cases c1 : (n == 0)
  ·simp only [go_sem,seval,h1,h3,hF,q1,q3,l1,l3,nat_neg,tnc,hl,c0,c1]
  ·simp only [go_sem,seval,h1,h3,hF,q1,q3,l1,l3,nat_neg,tnc,hl,c0,c1]
 ·cases c1 : (n == 0)
  ·simp only [go_sem,seval,h1,h3,hF,q1,q3,l1,l3,nat_neg,tnc,hl,c0,c1]
  ·simp only [go_sem,seval,h1,h3,hF,q1,q3,l1,l3,nat_neg,tnc,hl,c0,c1]
end
section
variable {bx : List Box} {nr lr rows : List (List D)} {N F K L K2 : D} {p : Nat} {n op2 n2 kd aa : Int} {v : Bool}
theorem bright_2no (hN : IsS 5 nr N) (hF : Oq F) (hK : IsS 5 rows K) (hL : IsS 3 lr L) (hl : decide ((lr.length : Int) > 0) = false) (h : (decide (n >= 0) && decide (n < (nr.length : Int))) = false) :
  Jq (.call 73 [Nq N F,Wq 2 n 0 K L] bx) = Rq (B (false)) := by
 obtain ⟨w1,h1,h2,h3⟩ := hN
 obtain ⟨w2,q1,q2,q3⟩ := hK
 obtain ⟨w3,l1,l2,l3⟩ := hL
 cases c0 : decide (n >= 0)
 ·simp only [go_sem,seval,h1,h3,hF,q1,q3,l1,l3,nat_neg,tnc,hl,c0]
 ·rw [c0,Bool.true_and] at h; simp only [go_sem,seval,h1,h3,hF,q1,q3,l1,l3,nat_neg,tnc,hl,h,c0]
theorem bright_2go (hN : IsS 5 nr N) (hF : Oq F) (hK : IsS 5 rows K) (hL : IsS 3 lr L) (hl : decide ((lr.length : Int) > 0) = false) (hp : nr[p]? = some [dI kd,dI aa,dI op2,dI n2,K2]) (hv : Cq 49 [.dat (.sl 1 [[dI 3],[dI 4],[dI 8]]),I kd] (B v)) :
  Jq (.call 73 [Nq N F,Wq 2 p 0 K L] bx) = Rq (B ((rows.length : Int) == 0 && v)) := by
 obtain ⟨w1,h1,h2,h3⟩ := hN
 obtain rfl := isS_w h2 hp
 obtain ⟨w2,q1,q2,q3⟩ := hK
 obtain ⟨w3,l1,l2,l3⟩ := hL
 have lp : p < nr.length := (gsi.1 hp).1
 have z1 : decide ((p : Int) >= 0) = true := dqt (by omega)
 have z2 : decide ((p : Int) < (nr.length : Int)) = true := dqt (by omega)
 cases c0 : ((rows.length : Int) == 0)
 ·simp only [go_sem,seval,h1,h3,hF,q1,q3,l1,l3,nat_neg,tnc,hl,hv,hp,lp,z1,z2,c0]
 ·simp only [go_sem,seval,h1,h3,hF,q1,q3,l1,l3,nat_neg,tnc,hl,hv,hp,lp,z1,z2,c0]
theorem bright_8no (hN : IsS 5 nr N) (hF : Oq F) (hK : IsS 5 rows K) (hL : IsS 3 lr L) (hl : decide ((lr.length : Int) > 0) = false) (h : (decide (n >= 0) && decide (n < (nr.length : Int))) = false) :
  Jq (.call 73 [Nq N F,Wq 8 n 0 K L] bx) = Rq (B (false)) := by
 obtain ⟨w1,h1,h2,h3⟩ := hN
 obtain ⟨w2,q1,q2,q3⟩ := hK
 obtain ⟨w3,l1,l2,l3⟩ := hL
 cases c0 : decide (n >= 0)
 ·simp only [go_sem,seval,h1,h3,hF,q1,q3,l1,l3,nat_neg,tnc,hl,c0]
 ·rw [c0,Bool.true_and] at h; simp only [go_sem,seval,h1,h3,hF,q1,q3,l1,l3,nat_neg,tnc,hl,h,c0]
theorem bright_8go (hN : IsS 5 nr N) (hF : Oq F) (hK : IsS 5 rows K) (hL : IsS 3 lr L) (hl : decide ((lr.length : Int) > 0) = false) (hp : nr[p]? = some [dI kd,dI aa,dI op2,dI n2,K2]) (hv : Cq 49 [.dat (.sl 1 [[dI 5],[dI 6],[dI 7]]),I kd] (B v)) :
  Jq (.call 73 [Nq N F,Wq 8 p 0 K L] bx) = Rq (B ((rows.length : Int) == 0 && v)) := by
 obtain ⟨w1,h1,h2,h3⟩ := hN
 obtain rfl := isS_w h2 hp
 obtain ⟨w2,q1,q2,q3⟩ := hK
 obtain ⟨w3,l1,l2,l3⟩ := hL
 have lp : p < nr.length := (gsi.1 hp).1
 have z1 : decide ((p : Int) >= 0) = true := dqt (by omega)
 have z2 : decide ((p : Int) < (nr.length : Int)) = true := dqt (by omega)
 cases c0 : ((rows.length : Int) == 0)
 ·simp only [go_sem,seval,h1,h3,hF,q1,q3,l1,l3,nat_neg,tnc,hl,hv,hp,lp,z1,z2,c0]
 ·simp only [go_sem,seval,h1,h3,hF,q1,q3,l1,l3,nat_neg,tnc,hl,hv,hp,lp,z1,z2,c0]
end
end Go.Proofs.YtifckjhggamefaaGreatDoor
