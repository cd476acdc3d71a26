/- What the folder's round, step answer; a folder is folded until nothing can be folded. No condition. -/
import Derived.Test.YtifckjhggamefaaGreatDoorGx
import Derived.Test.YtifckjhggamefaaGreatDoorGh
import Derived.Test.YtifckjhggamefaaGreatDoorGv
import Derived.Test.YtifckjhggamefaaGreatDoorGj
set_option linter.unusedSimpArgs false
set_option linter.unusedVariables false
set_option linter.unusedSectionVars false
namespace Go.Proofs.YtifckjhggamefaaGreatDoor
open Go Go.Vx
set_option maxRecDepth 10000
set_option maxHeartbeats 1000000
section
variable {n : Nt} {w : Wb} {bx : List Box} {l : Nat} {N F : D}
theorem round_ev (hG : Gates n) (hN : IsN n N F) (hw : InvW n w) (hB : FB bx l N F w) :
  ev cfg (.call 64 [.ptr l 0] bx) = match firstAt (threeAt n w) 0 w.ks.length with
   | none => (Rq (B false))
   | some x => some (.ret (B true) (some ⟨bx.set l (fbox N F x), l, false⟩)) := by
 have hkl : (cB.cBs w.ks).length = w.ks.length := cBs_len _
 have loop : ∀ (m i : Nat), i + m = w.ks.length -> ev cfg (.loop 64 2 (q0 bx (sh64_2 (.ptr l 0) (I (cB.cBs w.ks).length) (I i)))) = match firstAt (threeAt n w) i m with
   | none => some (.loop (.exit 0) (q0 bx (se64_2 .dead)))
   | some x => some (.loop .ret ⟨(se64_2 (B true)), bx.set l (fbox N F x), bx.length, some l, false⟩) := by
  intro m
  induction m with
  | zero =>
   intro i hi
   exact es (fround_end hB.lt (by rw [hkl]; omega))
  | succ m ih =>
   intro i hi
   have h := round_at hG hN hw hB (j := i) (by omega)
   rw [firstAt]
   cases ho : threeAt n w i with
   | none =>
    rw [ho] at h
    have h2 := ih (i + 1) (by omega)
    rw [<- h] at h2
    simp only
    cases hf : firstAt (threeAt n w) (i + 1) m <;> (rw [hf] at h2; exact es h2)
   | some x =>
    rw [ho] at h
    exact es h
 have h := loop w.ks.length 0 (Nat.zero_add _)
 cases hf : firstAt (threeAt n w) 0 w.ks.length with
 | none => rw [hf] at h; exact es (fround_f hB.lt hB.get h)
 | some x => rw [hf] at h; exact es (fround_t hB.lt hB.get h)
theorem step_ev (hG : Gates n) (hN : IsN n N F) (hw : InvW n w) (hB : FB bx l N F w) :
  ev cfg (.call 28 [.ptr l 0] bx) = some (.ret (I (nextW n w).2) (if (nextW n w).2 = 0 then none else some ⟨bx.set l (fbox N F (nextW n w).1), l, false⟩)) := by
 have h1 := inRow_ev hw hB
 have h2 := closed_ev hG hN hw hB
 have h3 := round_ev hG hN hw hB
 unfold nextW
 cases f1 : firstAt (oneAt w) 0 w.ks.length with
 | some x => rw [f1] at h1; exact es (fstep_1 hB.lt h1)
 | none =>
  rw [f1] at h1
  simp only
  cases f2 : firstAt (twoAt n w) 0 w.ks.length with
  | some x => rw [f2] at h2; exact es (fstep_2 hB.lt h1 h2)
  | none =>
   rw [f2] at h2
   simp only
   cases f3 : firstAt (threeAt n w) 0 w.ks.length with
   | some x => rw [f3] at h3; exact es (fstep_3 hB.lt h1 h2 h3)
   | none => rw [f3] at h3; exact es (fstep_0 hB.lt h1 h2 h3)
end
theorem first_some {f : Nat -> Option Wb} {p : Wb -> Prop} : ∀ {m i : Nat} {x : Wb}, (∀ j, i <= j -> j < i + m -> ∀ y, f j = some y -> p y) -> firstAt f i m = some x -> p x
 | 0, i, x, _, h => by cases h
 | m + 1, i, x, hp, h => by
  rw [firstAt] at h
  cases hf : f i with
  | some y =>
   rw [hf] at h
   obtain rfl := sij h
   exact hp i (Nat.le_refl _) (by omega) _ hf
  | none =>
   rw [hf] at h
   exact first_some (fun j h1 h2 => hp j (by omega) (by omega)) h
theorem next_inv {n : Nt} {w : Wb} (hG : Gates n) (h : InvW n w) : InvW n (nextW n w).1 /\ ((nextW n w).2 ≠ 0 -> (nextW n w).1.ls.length < w.ls.length) /\ ((nextW n w).2 = 0 -> (nextW n w).1 = w) /\ (0 <= (nextW n w).2 /\ (nextW n w).2 <= 3) /\ (w.ks ≠ [] -> (nextW n w).1.ks ≠ []) := by
 unfold nextW
 cases f1 : firstAt (oneAt w) 0 w.ks.length with
 | some x =>
  have := first_some (p := fun x => InvW n x /\ x.ls.length < w.ls.length /\ x.ks ≠ []) (fun j _ hj y hy => one_inv h (by omega) hy) f1
  exact ⟨this.1, fun _ => this.2.1, fun e => absurd (show (1 : Int) = 0 from e) (by decide), show (0 : Int) <= 1 /\ (1 : Int) <= 3 by decide, fun _ => this.2.2⟩
 | none =>
  simp only
  cases f2 : firstAt (twoAt n w) 0 w.ks.length with
  | some x =>
   have := first_some (p := fun x => InvW n x /\ x.ls.length < w.ls.length /\ x.ks ≠ []) (fun j _ hj y hy => two_inv hG h (by omega) hy) f2
   exact ⟨this.1, fun _ => this.2.1, fun e => absurd (show (2 : Int) = 0 from e) (by decide), show (0 : Int) <= 2 /\ (2 : Int) <= 3 by decide, fun _ => this.2.2⟩
  | none =>
   simp only
   cases f3 : firstAt (threeAt n w) 0 w.ks.length with
   | some x =>
    have := first_some (p := fun x => InvW n x /\ x.ls.length < w.ls.length /\ x.ks ≠ []) (fun j _ hj y hy => three_inv hG h (by omega) hy) f3
    exact ⟨this.1, fun _ => this.2.1, fun e => absurd (show (3 : Int) = 0 from e) (by decide), show (0 : Int) <= 3 /\ (3 : Int) <= 3 by decide, fun _ => this.2.2⟩
   | none => exact ⟨h, fun e => absurd rfl e, fun _ => rfl, show (0 : Int) <= 0 /\ (0 : Int) <= 3 by decide, fun h => h⟩
def foldsW (n : Nt) : Nat -> Wb -> Wb
 | 0, w => w
 | k + 1, w => foldsW n k (nextW n w).1
theorem folds_inv {n : Nt} (hG : Gates n) : ∀ (k : Nat) {w : Wb}, InvW n w -> InvW n (foldsW n k w)
 | 0, _, h => h
 | k + 1, w, h => folds_inv hG k (next_inv hG h).1
theorem folds_stop {n : Nt} {w : Wb} (h : (nextW n w).2 = 0) (h1 : (nextW n w).1 = w) : ∀ k, foldsW n k w = w
 | 0 => rfl
 | k + 1 => by rw [foldsW, h1]; exact folds_stop h h1 k
theorem folds_end {n : Nt} (hG : Gates n) : ∀ (k : Nat) {w : Wb}, InvW n w -> w.ls.length <= k -> (nextW n (foldsW n k w)).2 = 0
 | 0, w, h, hl => by
  rcases Int.lt_or_eq_of_le (next_inv hG h).2.2.2.1.1 with h0 | h0
  ·have := (next_inv hG h).2.1 (by omega); omega
  ·exact h0.symm
 | k + 1, w, h, hl => by
  rw [foldsW]
  by_cases h0 : (nextW n w).2 = 0
  ·have h1 := (next_inv hG h).2.2.1 h0
   rw [h1, folds_stop h0 h1]; exact h0
  ·have := (next_inv hG h).2.1 h0
   exact folds_end hG k (next_inv hG h).1 (by omega)
theorem folds_ne {n : Nt} (hG : Gates n) : ∀ (k : Nat) {w : Wb}, InvW n w -> w.ks ≠ [] -> (foldsW n k w).ks ≠ []
 | 0, _, _, h => h
 | k + 1, w, h, hk => folds_ne hG k (next_inv hG h).1 ((next_inv hG h).2.2.2.2 hk)
theorem web_ls {n : Nt} {w : Wb} (h : InvW n w) (hG : Gates n) (hk : w.ks ≠ []) : w.ls ≠ [] := by
 intro e
 obtain ⟨b, bs, hb⟩ := List.exists_cons_of_ne_nil hk
 have h0 : w.ks[0]? = some b := by rw [hb]; rfl
 have hk := h.kid 0 b h0
 have hz : (insW w.ls (0 : Nat)).length = 0 /\ (outsW w.ls (0 : Nat)).length = 0 := by rw [e]; exact ⟨rfl, rfl⟩
 rw [hz.1, hz.2] at hk
 by_cases h8 : b.kd = 8
 ·obtain ⟨g1, g2, g3, g4⟩ := hk.gate h8
  have := hG.2 b.nd g1.1 g1.2 g2
  omega
 ·have := hk.one h8
  omega
theorem fold_loop {n : Nt} {bx : List Box} {N F : D} {z0 z1 z2 z3 z4 : Box} (hG : Gates n) (hN : IsN n N F) (o1 : Oq N) (o2 : Oq F) (y0 : z0.all (cellLt (bx.length + 6)) = true) (y1 : z1.all (cellLt (bx.length + 6)) = true) (y2 : z2.all (cellLt (bx.length + 6)) = true) (y3 : z3.all (cellLt (bx.length + 6)) = true) (y4 : z4.all (cellLt (bx.length + 6)) = true) :
  ∀ (k : Nat) (w : Wb), InvW n w -> w.ks ≠ [] -> w.ls.length <= k →
   ev cfg (.loop 9 5 (qs bx (sh9_5 (P1 bx) (P5 bx)) [z0, z1, z2, z3, z4, fbox N F w])) =
    some (.loop (.exit 0) (qs bx (se9_5 (P1 bx) (P5 bx)) [z0, z1, z2, z3, z4, fbox N F (foldsW n k w)])) := by
 have yf : ∀ w : Wb, (fbox N F w).all (cellLt (bx.length + 6)) = true := fun w => by
  rw [fbox]
  cases cB.cBs w.ks <;> cases w.ls.map lnkD <;> rfl
 have hfb : ∀ w : Wb, InvW n w -> w.ks ≠ [] -> FB (bx ++ [z0, z1, z2, z3, z4, fbox N F w]) (bx.length + 5) N F w := fun w hw hk => by
  refine ⟨by simp, ?_, o1, o2⟩
  rw [gar (by omega), show bx.length + 5 - bx.length = 5 by omega]
  show some (fbox N F w) = _
  rw [fbox_ne hk (web_ls hw hG hk)]
 have hset : ∀ w w' : Wb, (bx ++ [z0, z1, z2, z3, z4, fbox N F w]).set (bx.length + 5) (fbox N F w') = bx ++ [z0, z1, z2, z3, z4, fbox N F w'] := fun w w' => by
  rw [List.set_append_right _ _ (by omega), show bx.length + 5 - bx.length = 5 by omega]; rfl
 intro k
 induction k with
 | zero =>
  intro w hw hk hl
  have h0 := folds_end hG 0 hw hl
  have hs := step_ev hG hN hw (hfb w hw hk)
  rw [show (nextW n w).2 = 0 from h0, if_pos rfl] at hs
  exact es (fFold_stop y0 y1 y2 y3 y4 (yf w) hs)
 | succ k ih =>
  intro w hw hk hl
  have hs := step_ev hG hN hw (hfb w hw hk)
  by_cases h0 : (nextW n w).2 = 0
  ·have h1 := (next_inv hG hw).2.2.1 h0
   rw [h0, if_pos rfl] at hs
   rw [folds_stop h0 h1]
   exact es (fFold_stop y0 y1 y2 y3 y4 (yf w) hs)
  ·rw [if_neg h0, hset] at hs
   have hn := next_inv hG hw
   have hlt := hn.2.1 h0
   exact es ((fFold_go y0 y1 y2 y3 y4 (yf w) (yf _) hs (by simpa using h0)).trans (ih _ hn.1 (hn.2.2.2.2 hk) (by omega)))
theorem web_ev {n : Nt} {w : Wb} {bx : List Box} {l : Nat} {N F : D} (hw : InvW n w) (hG : Gates n) (hk : w.ks ≠ []) (hB : FB bx l N F w) :
  ∃ c : Box, ev cfg (.call 30 [.ptr l 0] bx) = some (.ret (Wq 9 0 0 (mkD 5 (cB.cBs w.ks)) (mkD 3 (w.ls.map lnkD))) (some ⟨bx.set l c, l, false⟩)) := by
 have hls := web_ls hw hG hk
 obtain ⟨b, bs, hb⟩ := List.exists_cons_of_ne_nil hk
 obtain ⟨x, xs, hx⟩ := List.exists_cons_of_ne_nil hls
 have hget := hB.get
 rw [hb, hx] at hget
 refine ⟨[.dat N, .dat F, .own false 5 (cB.cBs (b :: bs)), .own false 3 ((x :: xs).map lnkD)], ?_⟩
 rw [hb, hx]
 exact es (fweb_f hB.lt hget)
def prB (n : Nt) (i m : Nat) : List (List D) := (List.range i).map (fun j => [dI (placeN n j)]) ++ List.replicate m [dI 0]
theorem prB_get {n : Nt} {i m : Nat} : (prB n i (m + 1))[i]? = some [dI 0] := by
 rw [prB, gar (by simp)]
 simp
theorem prB_set {n : Nt} {i m : Nat} : (prB n i (m + 1)).set i [dI (placeN n i)] = prB n (i + 1) m := by
 rw [prB, prB, List.range_succ, List.map_append, List.replicate_succ, List.set_append_right _ _ (by simp)]
 simp
theorem prB_end {n : Nt} {i j : Nat} (h : j < i) : (prB n i 0)[j]? = some [dI (placeN n j)] := by
 rw [prB, List.replicate_zero, List.append_nil, List.getElem?_map, List.getElem?_range h]; rfl
def pW (w : Wb) : PV := Wq 9 0 0 (mkD 5 (cB.cBs w.ks)) (mkD 3 (w.ls.map lnkD))
section
variable {n : Nt} {N F : D}
theorem begin_ev (h : IsN n N F) (hfl : n.flows.length <= 1000) (hnd : n.nodes.length <= 1000) (hz : ∀ t ∈ termsN n, sizeT t <= 1000000) (bx : List Box) :
  (OkN n -> ev cfg (.call 11 [Nq N F] bx) = Rq (.tup [pW (beginW n), I 0])) ∧
  (¬ OkN n -> ev cfg (.call 11 [Nq N F] bx) = Rq (.tup [Wq 0 0 0 .nil .nil, I 4])) := by
 obtain ⟨o1, o2⟩ := isN_one h
 obtain ⟨r, q, hr, hc⟩ := ncheck_ev h hfl hnd hz
 have h0 := h
 obtain ⟨nr, fr, hN, hnr, _, hF, hfr, _⟩ := h
 have hlen : nr.length = n.nodes.length := hnr.1
 have hflen : fr.length = n.flows.length := hfr.1
 refine ⟨fun hok => ?_, fun hno => ?_⟩
 case refine_2 =>
  have : r ≠ 0 := fun e => hno (hr.1 e)
  exact es (fbegin_err o1 o2 (fun r0 r1 => hc _) (by simpa using this))
 have hr0 : (r != 0) = false := by simpa using hr.2 hok
 have hE := ok_ends hok
 have loop1 : ∀ (xs : List Nd) (i m : Nat) (acc : List Blk), n.nodes.drop i = xs -> m = xs.length -> acc.length = rank (goneN n) i -> acc.length <= i →
   ev cfg (.loop 11 7 (qs bx (sh11_7 (P0 bx) (P1 bx) (P2 bx) (.own true 1 (prB n i m)) (.dat N) (I nr.length) (I i)) [Nb N F, E6, [I 9, I 0, I 0, mkS 5 (cB.cBs acc), .dat .nil]])) =
    some (.loop (.exit 0) (qs bx (se11_7 (P0 bx) (P1 bx) (P2 bx) (.own true 1 (prB n (i + m) 0))) [Nb N F, E6, [I 9, I 0, I 0, mkS 5 (cB.cBs (acc ++ dropK (goneN n) i (allB i xs))), .dat .nil]])) := by
  intro xs
  induction xs with
  | nil =>
   intro i m acc hd hm _ _
   have hm0 : m = 0 := hm
   subst hm0
   rw [allB, dropK, List.append_nil]
   exact es (fbegin_kend o1 o2 (by rw [hlen]; exact drop_nil hd))
  | cons x xs ih =>
   intro i m acc hd hm ha hai
   obtain ⟨hget, hd', hlt⟩ := drop_cons hd
   have hm1 : m = xs.length + 1 := hm
   subst hm1
   obtain ⟨row, hrow, _, _, op, mm, K, rfl, hT⟩ := hnr.2 i x hget
   have hlti : i < nr.length := by rw [hlen]; exact hlt
   have hmx : nr.length < 9223372036854775808 := by omega
   have hKT := isT_one hT
   have hge : goneN n i = isEnd x := by rw [goneN, hget]
   rw [show i + (xs.length + 1) = i + 1 + xs.length by omega, allB, dropK]
   by_cases hend : isEnd x = true
   ·rw [if_pos (by rw [hge]; exact hend)]
    have hpl : placeN n i = -1 := by rw [placeN, if_pos (by rw [hge]; exact hend)]
    have h2 := ih (i + 1) xs.length acc hd' rfl (by rw [rank_gone (by rw [hge]; exact hend)]; exact ha) (by omega)
    have hset := prB_set (n := n) (i := i) (m := xs.length)
    rw [hpl] at hset
    rw [isEnd, Bool.or_eq_true] at hend
    by_cases k1 : (x.k == 1) = true
    ·have hrr := fbegin_end1 (KP := cB.cBs acc) (bx := bx) hN o2 hrow hKT hlti hmx (prB_get (n := n) (m := xs.length)) k1
     rw [hset] at hrr
     exact es (hrr.trans h2)
    ·rw [Bool.not_eq_true] at k1
     have k2 : (x.k == 2) = true := by rcases hend with h | h; rw [k1] at h; cases h; exact h
     have hrr := fbegin_end2 (KP := cB.cBs acc) (bx := bx) hN o2 hrow hKT hlti hmx (prB_get (n := n) (m := xs.length)) k1 k2
     rw [hset] at hrr
     exact es (hrr.trans h2)
   ·have hgf : goneN n i = false := by rw [hge]; simpa using hend
    rw [if_neg (by rw [hgf]; exact fnt)]
    have hpl : placeN n i = (acc.length : Nat) := by rw [placeN, if_neg (by rw [hgf]; exact fnt), ha]
    have h2 := ih (i + 1) xs.length (acc ++ [beginB i x]) hd' rfl (by rw [rank_succ hgf, <- ha]; simp) (by simp; omega)
    rw [List.append_assoc] at h2
    have hset := prB_set (n := n) (i := i) (m := xs.length)
    rw [hpl] at hset
    have hks : ((cB.cBs acc).length + 1) * 72 <= 140737488355328 := by rw [cBs_len]; omega
    simp only [isEnd, Bool.or_eq_true, not_or, Bool.not_eq_true] at hend
    obtain ⟨k1, k2⟩ := hend
    have happ : mkS 5 (cB.cBs (acc ++ [beginB i x])) = .own true 5 (cB.cBs acc ++ [cB (beginB i x)]) := by rw [cBs_app]; exact mkS_app 5 _ _
    rw [happ] at h2
    have hset' : (prB n i (xs.length + 1)).set i [dI ((cB.cBs acc).length : Nat)] = prB n (i + 1) xs.length := by rw [cBs_len]; exact hset
    by_cases k5 : (x.k == 5) = true
    ·have eB : cB (beginB i x) = [dI 8, dI i, dI 0, .nil, .nil] := by rw [beginB, if_pos (.inl (by simpa using k5))]; rfl
     rw [eB] at h2
     cases acc with
     | nil =>
      have hrr := fbegin_g50 (bx := bx) hN o2 hrow hKT hlti hmx (prB_get (n := n) (m := xs.length)) k1 k2 k5
      rw [show [dI ((0 : Nat) : Int)] = [dI (([] : List Blk).length : Nat)] from rfl, hset] at hrr
      exact es (hrr.trans h2)
     | cons c acc =>
      have hrr := fbegin_g51 (bx := bx) (ks := cB.cBs (c :: acc)) hN o2 hrow hKT hlti hmx (prB_get (n := n) (m := xs.length)) k1 k2 k5 hks
      rw [hset'] at hrr
      exact es (hrr.trans h2)
    rw [Bool.not_eq_true] at k5
    by_cases k6 : (x.k == 6) = true
    ·have eB : cB (beginB i x) = [dI 8, dI i, dI 0, .nil, .nil] := by rw [beginB, if_pos (.inr (.inl (by simpa using k6)))]; rfl
     rw [eB] at h2
     cases acc with
     | nil =>
      have hrr := fbegin_g60 (bx := bx) hN o2 hrow hKT hlti hmx (prB_get (n := n) (m := xs.length)) k1 k2 k5 k6
      rw [show [dI ((0 : Nat) : Int)] = [dI (([] : List Blk).length : Nat)] from rfl, hset] at hrr
      exact es (hrr.trans h2)
     | cons c acc =>
      have hrr := fbegin_g61 (bx := bx) (ks := cB.cBs (c :: acc)) hN o2 hrow hKT hlti hmx (prB_get (n := n) (m := xs.length)) k1 k2 k5 k6 hks
      rw [hset'] at hrr
      exact es (hrr.trans h2)
    rw [Bool.not_eq_true] at k6
    by_cases k7 : (x.k == 7) = true
    ·have eB : cB (beginB i x) = [dI 8, dI i, dI 0, .nil, .nil] := by rw [beginB, if_pos (.inr (.inr (by simpa using k7)))]; rfl
     rw [eB] at h2
     cases acc with
     | nil =>
      have hrr := fbegin_g70 (bx := bx) hN o2 hrow hKT hlti hmx (prB_get (n := n) (m := xs.length)) k1 k2 k5 k6 k7
      rw [show [dI ((0 : Nat) : Int)] = [dI (([] : List Blk).length : Nat)] from rfl, hset] at hrr
      exact es (hrr.trans h2)
     | cons c acc =>
      have hrr := fbegin_g71 (bx := bx) (ks := cB.cBs (c :: acc)) hN o2 hrow hKT hlti hmx (prB_get (n := n) (m := xs.length)) k1 k2 k5 k6 k7 hks
      rw [hset'] at hrr
      exact es (hrr.trans h2)
    rw [Bool.not_eq_true] at k7
    have eB : cB (beginB i x) = [dI 2, dI i, dI 0, .nil, .nil] := by
     rw [beginB, if_neg (by simp at k5 k6 k7; omega)]; rfl
    rw [eB] at h2
    cases acc with
    | nil =>
     have hrr := fbegin_leaf0 (bx := bx) hN o2 hrow hKT hlti hmx (prB_get (n := n) (m := xs.length)) k1 k2 k5 k6 k7
     rw [show [dI ((0 : Nat) : Int)] = [dI (([] : List Blk).length : Nat)] from rfl, hset] at hrr
     exact es (hrr.trans h2)
    | cons c acc =>
     have hrr := fbegin_leaf1 (bx := bx) (ks := cB.cBs (c :: acc)) hN o2 hrow hKT hlti hmx (prB_get (n := n) (m := xs.length)) k1 k2 k5 k6 k7 hks
     rw [hset'] at hrr
     exact es (hrr.trans h2)
 have loop2 : ∀ (xs : List Fl) (i : Nat) (acc : List Lk), n.flows.drop i = xs -> acc.length <= i →
   ev cfg (.loop 11 22 (qs bx (sh11_22 (P1 bx) (P2 bx) (.own true 1 (prB n n.nodes.length 0)) (.dat F) (I fr.length) (I i)) [Nb N F, E6, [I 9, I 0, I 0, mkS 5 (cB.cBs (beginW n).ks), mkS 3 (acc.map lnkD)]])) =
    some (.loop (.exit 3) (qs bx (se11_22 (P1 bx) (P2 bx)) [Nb N F, E6, [I 9, I 0, I 0, mkS 5 (cB.cBs (beginW n).ks), mkS 3 ((acc ++ beginL n i xs).map lnkD)]])) := by
  intro xs
  induction xs with
  | nil =>
   intro i acc hd _
   rw [beginL, List.append_nil]
   exact es (fbegin_lend o1 o2 (by rw [hflen]; exact drop_nil hd))
  | cons f fs ih =>
   intro i acc hd ha
   obtain ⟨hget, hd', hlt⟩ := drop_cons hd
   obtain ⟨row, hrow, _, _, op, mm, K, rfl, hT⟩ := hfr.2 i f hget
   have hf := hE f (mog hget)
   have e1 : f.fr = ((f.fr.toNat : Nat) : Int) := by omega
   have e2 : f.to = ((f.to.toNat : Nat) : Int) := by omega
   rw [e1, e2] at hrow
   have hp := prB_end (n := n) (show f.fr.toNat < n.nodes.length by omega)
   have hq := prB_end (n := n) (show f.to.toNat < n.nodes.length by omega)
   have h2 := ih (i + 1) (acc ++ [(placeN n f.fr.toNat, placeN n f.to.toNat, (i : Int))]) hd' (by simp; omega)
   rw [List.append_assoc, List.map_append, List.map_append] at h2
   have hlti : i < fr.length := by rw [hflen]; exact hlt
   have hmx : fr.length < 9223372036854775808 := by omega
   rw [beginL, List.map_append]
   have hsn : mkS 3 (acc.map lnkD ++ [lnkD (placeN n f.fr.toNat, placeN n f.to.toNat, (i : Int))]) = .own true 3 (acc.map lnkD ++ [[dI (placeN n f.fr.toNat), dI (placeN n f.to.toNat), dI i]]) := mkS_app 3 _ _
   rw [show List.map lnkD [(placeN n f.fr.toNat, placeN n f.to.toNat, (i : Int))] = [lnkD (placeN n f.fr.toNat, placeN n f.to.toNat, (i : Int))] from rfl, hsn] at h2
   cases acc with
   | nil => exact es ((fbegin_l0 (bx := bx) (ks := cB.cBs (beginW n).ks) o1 hF hrow (isT_one hT) hlti hmx hp hq).trans h2)
   | cons c acc => exact es ((fbegin_l1 (bx := bx) (ks := cB.cBs (beginW n).ks) (ls := (c :: acc).map lnkD) o1 hF hrow (isT_one hT) hlti hmx hp hq (by rw [List.length_map]; omega)).trans h2)
 have h1 := loop1 n.nodes 0 n.nodes.length [] rfl rfl rfl (Nat.le_refl _)
 have h2 := loop2 n.flows 0 [] rfl (Nat.le_refl _)
 rw [Nat.zero_add, List.nil_append] at h1
 rw [List.nil_append] at h2
 refine es (fbegin_f (pr := prB n n.nodes.length 0) (ks := cB.cBs (beginW n).ks) (ls := (beginW n).ls.map lnkD) hN hF (fun r0 r1 => hc _) hr0 (by omega) ?_ h2)
 have e : prB n 0 n.nodes.length = List.replicate nr.length [dI 0] := by rw [prB, hlen]; rfl
 rw [e] at h1
 exact h1
end
end Go.Proofs.YtifckjhggamefaaGreatDoor
