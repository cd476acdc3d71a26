/- BlockGrows: whatever the process and the blocks, it is true. No condition. -/
import Derived.Test.YtifckjhggamefaaDoorGj
import Derived.Test.YtifckjhggamefaaDoorGl
import Derived.Test.YtifckjhggamefaaDoorGc
import Derived.Test.YtifckjhggamefaaDoorGn
import Derived.KernelRfl
import Derived.Test.YtifckjhggamefaaDoorGe
set_option linter.unusedSimpArgs false
set_option linter.unusedVariables false
set_option linter.unusedSectionVars false
namespace Go.Proofs.YtifckjhggamefaaDoor
open Go Go.Vx
set_option maxRecDepth 10000
set_option maxHeartbeats 1000000
theorem compact_lt (zs : List Int) : (Lib.compact zs).length < zs.length ↔ ∃ j, 0 < j /\ j < zs.length /\ zs[j]! = zs[j - 1]! := by
 have h1 : (Lib.compact zs).length = ((List.range zs.length).filter (Lib.keeps zs.toArray)).length := by
  unfold Lib.compact Lib.compactUpTo; simp
 rw [h1]
 constructor
 ·intro h
  by_cases hn : ∃ j, 0 < j /\ j < zs.length /\ zs[j]! = zs[j - 1]!
  ·exact hn
  ·exfalso
   have : (List.range zs.length).filter (Lib.keeps zs.toArray) = List.range zs.length := by
    rw [List.filter_eq_self]
    intro j hj
    rw [List.mem_range] at hj
    unfold Lib.keeps
    by_cases h0 : j = 0
    ·simp [h0]
    ·have : ¬ zs[j]! = zs[j - 1]! := fun e => hn ⟨j, by omega, hj, e⟩
     simpa [h0] using this
   rw [this, List.length_range] at h
   omega
 ·rintro ⟨j, h0, h2, h3⟩
  have hl : ((List.range zs.length).filter (Lib.keeps zs.toArray)).length <= (List.range zs.length).length := List.length_filter_le ..
  rw [List.length_range] at hl
  rcases Nat.lt_or_ge ((List.range zs.length).filter (Lib.keeps zs.toArray)).length zs.length with h | h
  ·exact h
  ·exfalso
   have he : ((List.range zs.length).filter (Lib.keeps zs.toArray)).length = (List.range zs.length).length := by rw [List.length_range]; omega
   have := (List.length_filter_eq_length_iff.1 he) j (List.mem_range.2 h2)
   unfold Lib.keeps at this
   simp at this
   rcases this with h | h
   ·omega
   ·exact h (by simpa using h3)
theorem compact_dup {zs : List Int} (hs : zs.Pairwise (· <= ·)) : (Lib.compact zs).length < zs.length ↔ ¬ zs.Nodup := by
 rw [compact_lt]
 have hnd : zs.Nodup ↔ ∀ (i j : Nat) (hi : i < zs.length) (hj : j < zs.length), i < j -> zs[i] ≠ zs[j] := List.pairwise_iff_getElem
 rw [hnd]
 constructor
 ·rintro ⟨j, h1, h2, h3⟩ h
  rw [getElem!_pos zs j h2, getElem!_pos zs (j - 1) (by omega)] at h3
  exact h (j - 1) j (by omega) h2 (by omega) h3.symm
 ·intro h
  simp only [Classical.not_forall, ne_eq, Classical.not_not] at h
  obtain ⟨i, j, hi, hj, hij, he⟩ := h
  refine ⟨i + 1, by omega, by omega, ?_⟩
  rw [getElem!_pos zs (i + 1) (by omega), getElem!_pos zs (i + 1 - 1) (by omega)]
  have p1 : zs[i] <= zs[i + 1] := List.pairwise_iff_getElem.1 hs i (i + 1) (by omega) (by omega) (by omega)
  have p2 : zs[i + 1] <= zs[j] := by
   rcases Nat.lt_or_ge (i + 1) j with hl | hl
   ·exact List.pairwise_iff_getElem.1 hs (i + 1) j (by omega) hj hl
   ·have : i + 1 = j := by omega
    subst this; exact Int.le_refl _
  simp only [Nat.add_sub_cancel]
  omega
theorem sortI_sorted (l : List Int) : (sortI l).Pairwise (· <= ·) := by
 have := List.pairwise_mergeSort (le := fun x y : Int => decide (x <= y)) (fun a b c h1 h2 => by simp at h1 h2 ⊢; omega) (fun a b => by simp; omega) l
 exact this.imp fun h => by simpa using h
theorem sortI_perm (l : List Int) : (sortI l).Perm l := List.mergeSort_perm l _
theorem dup_iff (l : List Int) : dupB l = true ↔ ¬ l.Nodup := by
 rw [dupB, dqE, compact_dup (sortI_sorted l), (sortI_perm l).nodup_iff]
def xB (a b : Blk) : Blk := .mk 3 0 0 [a, b] []
theorem nodes_x (n : Nt) (a b : Blk) : nodesB n (xB a b) = nodesB n a ++ nodesB n b := by
 rw [xB, nodesB, nodesB.go, nodesB.go, nodesB.go, nodeL, if_neg (by decide), if_neg (by decide), List.append_nil, List.nil_append]
theorem size_x (a b : Blk) : sizeB (xB a b) = 1 + (sizeB a + sizeB b) := by
 rw [xB, sizeB, sizeB.go, sizeB.go, sizeB.go]; omega
theorem deep_x (a b : Blk) : deepB a < deepB (xB a b) /\ deepB b < deepB (xB a b) := by
 rw [xB, deepB, deepB.go, deepB.go, deepB.go]
 constructor <;> (split <;> split <;> omega)
theorem nest_x {n : Nt} {a b : Blk} (ka : kB a ≠ 3) (kb : kB b ≠ 3) : nestB n (xB a b) = true ↔ ((kB a < 8 ∨ kB a > 10) /\ nestB n a = true) /\ (kB b < 8 ∨ kB b > 10) /\ nestB n b = true := by
 have hr : rightB n 3 0 0 [a, b] [] = true := by
  have h1 : (kB a == 3) = false := by simpa using ka
  have h2 : (kB b == 3) = false := by simpa using kb
  simp [rightB, headBad, h1, h2]
 rw [xB, nestB, hr, Bool.true_and, Bool.not_eq_true', nestB.go, nestB.go, nestB.go]
 simp only [Bool.or_eq_false_iff, Bool.and_eq_false_iff, beq_eq_false_iff_ne, Bool.not_eq_false', bne_eq_false_iff_eq]
 constructor
 ·rintro ⟨⟨h1, h2, h3, h4⟩, ⟨g1, g2, g3, g4⟩, _⟩
  exact ⟨⟨by omega, h4⟩, by omega, g4⟩
 ·rintro ⟨⟨h1, h4⟩, g1, g4⟩
  exact ⟨⟨by omega, by omega, .inl (by omega), h4⟩, ⟨by omega, by omega, .inl (by omega), g4⟩, trivial⟩
theorem nest_k {n : Nt} : ∀ {b : Blk}, nestB n b = true -> kB b <= 10
 | .mk k nd a ks ls, h => by
  rw [nestB, Bool.and_eq_true] at h
  have h := h.1
  show k <= 10
  unfold rightB at h
  split at h
  ·cases h
  split at h
  ·omega
  repeat' split at h
  all_goals first | omega | cases h
theorem chk0 {ok : Bool} {n : Nt} {b : Blk} : chkB ok n b = 0 ↔ ok = true /\ longB b = false /\ nestB n b = true /\ (nodesB n b).Nodup := by
 unfold chkB
 have hd := dup_iff (nodesB n b)
 cases ok <;> cases longB b <;> cases nestB n b <;> cases h : dupB (nodesB n b) <;> simp_all
theorem chk_x {ok : Bool} {n : Nt} {a b : Blk} (ha : chkB ok n a = 0) (hb : chkB ok n b = 0) (hl : longB (xB a b) = false) (hn : nestB n (xB a b) = true) : chkB ok n (xB a b) = if (nodesB n a ++ nodesB n b).Nodup then 0 else 8 := by
 obtain ⟨h1, _⟩ := chk0.1 ha
 unfold chkB
 have hd := dup_iff (nodesB n (xB a b))
 rw [nodes_x] at hd ⊢
 subst h1
 rw [if_neg (by decide), hl, if_neg (by decide), hn, if_neg (by decide)]
 by_cases h : (nodesB n a ++ nodesB n b).Nodup
 ·rw [if_pos h, if_neg (fun e => hd.1 e h)]
 ·rw [if_neg h, if_pos (hd.2 h)]
theorem chk_bad {ok : Bool} {n : Nt} {a b : Blk} (ka : kB a ≠ 3) (kb : kB b ≠ 3) (h : chkB ok n a ≠ 0 ∨ chkB ok n b ≠ 0) : chkB ok n (xB a b) ≠ 0 := by
 intro hx
 obtain ⟨h1, h2, h3, h4⟩ := chk0.1 hx
 rw [nodes_x, List.nodup_append] at h4
 obtain ⟨⟨_, n1⟩, _, n2⟩ := (nest_x ka kb).1 h3
 have hs := size_x a b
 have hd := deep_x a b
 have p1 := sizeB_pos a
 have p2 := sizeB_pos b
 unfold longB at h2
 simp only [Bool.or_eq_false_iff, decide_eq_false_iff_not] at h2
 have l1 : longB a = false := by unfold longB; simp only [Bool.or_eq_false_iff, decide_eq_false_iff_not]; omega
 have l2 : longB b = false := by unfold longB; simp only [Bool.or_eq_false_iff, decide_eq_false_iff_not]; omega
 rcases h with h | h
 ·exact h (chk0.2 ⟨h1, l1, n1, h4.1⟩)
 ·exact h (chk0.2 ⟨h1, l2, n2, h4.2.1⟩)
theorem chk_stop {ok : Bool} {n : Nt} {a b : Blk} (ka : kB a ≠ 3) (kb : kB b ≠ 3) (ha : chkB ok n a = 0) (hb : chkB ok n b = 0) (h : (decide (kB a >= 8) || (decide (kB b >= 8) || (decide (sizeB (xB a b) > 96) || decide (deepB (xB a b) > 24)))) = true) : chkB ok n (xB a b) ≠ 0 := by
 intro hx
 obtain ⟨h1, h2, h3, h4⟩ := chk0.1 hx
 obtain ⟨⟨m1, n1⟩, m2, n2⟩ := (nest_x ka kb).1 h3
 have q1 := nest_k n1
 have q2 := nest_k n2
 unfold longB at h2
 simp only [Bool.or_eq_false_iff, decide_eq_false_iff_not] at h2
 simp only [Bool.or_eq_true, dqE] at h
 omega
theorem chk_go {ok : Bool} {n : Nt} {a b : Blk} (ka : kB a ≠ 3) (kb : kB b ≠ 3) (ha : chkB ok n a = 0) (hb : chkB ok n b = 0) (h : (decide (kB a >= 8) || (decide (kB b >= 8) || (decide (sizeB (xB a b) > 96) || decide (deepB (xB a b) > 24)))) = false) : chkB ok n (xB a b) = if (nodesB n a ++ nodesB n b).Nodup then 0 else 8 := by
 simp only [Bool.or_eq_false_iff, decide_eq_false_iff_not] at h
 refine chk_x ha hb ?_ ((nest_x ka kb).2 ⟨⟨by omega, (chk0.1 ha).2.2.1⟩, by omega, (chk0.1 hb).2.2.1⟩)
 unfold longB
 simp only [Bool.or_eq_false_iff, decide_eq_false_iff_not]
 omega
def shN (n : Nt) (a b : Blk) (i : Nat) : Bool := decide ((((nodesB n a).count (i : Int) : Nat) : Int) > 0) && decide ((((nodesB n b).count (i : Int) : Nat) : Int) > 0)
def shB (n : Nt) (a b : Blk) : Bool := (List.range n.nodes.length).any (shN n a b)
theorem shN_iff {n : Nt} {a b : Blk} {i : Nat} : shN n a b i = true ↔ (i : Int) ∈ nodesB n a /\ (i : Int) ∈ nodesB n b := by
 unfold shN
 rw [Bool.and_eq_true, dqE, dqE, <- List.count_pos_iff, <- List.count_pos_iff]
 omega
theorem sh_iff {n : Nt} {a b : Blk} (hin : ∀ z ∈ nodesB n a, 0 <= z /\ z < n.nodes.length) (ha : (nodesB n a).Nodup) (hb : (nodesB n b).Nodup) : shB n a b = true ↔ ¬ (nodesB n a ++ nodesB n b).Nodup := by
 rw [shB, List.any_eq_true]
 constructor
 ·rintro ⟨i, _, hi⟩ h
  rw [List.nodup_append] at h
  obtain ⟨h1, h2⟩ := shN_iff.1 hi
  exact h.2.2 _ h1 _ h2 rfl
 ·intro h
  rw [List.nodup_append] at h
  have : ∃ z, z ∈ nodesB n a /\ z ∈ nodesB n b := by
   refine Classical.byContradiction fun hn => h ⟨ha, hb, fun x hx y hy e => hn ⟨x, hx, by rw [e]; exact hy⟩⟩
  obtain ⟨z, h1, h2⟩ := this
  have := hin z h1
  obtain ⟨i, rfl⟩ : ∃ i : Nat, z = i := ⟨z.toNat, by omega⟩
  exact ⟨i, List.mem_range.2 (by omega), shN_iff.2 ⟨h1, h2⟩⟩
theorem lv_len {n : Nt} {a b : Blk} (ka : kB a ≠ 10) (kb : kB b ≠ 10) : (lvL n (xB a b)).length = (lvL n a).length + (lvL n b).length := by
 have hf : ∀ l : List Int, ((sortI l).filter (leafN n)).length = (l.filter (leafN n)).length := fun l => ((sortI_perm l).filter _).length_eq
 have hx : kB (xB a b) ≠ 10 := by show (3 : Int) ≠ 10; decide
 rw [lvL, lvL, lvL, if_neg hx, if_neg ka, if_neg kb, hf, hf, hf, nodes_x, List.filter_append, List.length_append]
set_option maxRecDepth 100000
theorem alt_k3 (b0 b1 b2 : Box) : evN cfg 90 (.call 7 [] [b0, b1, b2]) = some (.ret (B true) none) := by kernel_rfl
theorem alt_k4 (b0 b1 b2 b3 : Box) : evN cfg 90 (.call 7 [] [b0, b1, b2, b3]) = some (.ret (B true) none) := by kernel_rfl
theorem alt_k5 (b0 b1 b2 b3 b4 : Box) : evN cfg 90 (.call 7 [] [b0, b1, b2, b3, b4]) = some (.ret (B true) none) := by kernel_rfl
theorem alt_k6 (b0 b1 b2 b3 b4 b5 : Box) : evN cfg 90 (.call 7 [] [b0, b1, b2, b3, b4, b5]) = some (.ret (B true) none) := by kernel_rfl
theorem okB_okL : ∀ b, okB b -> okL b
 | .mk k n a ks ls, h => by
  rw [okB] at h
  rw [okL]
  exact ⟨by omega, go ks h.2.2⟩
where
 go : ∀ bs, okB.go bs -> okL.go bs
 | [], _ => by rw [okL.go]; trivial
 | b :: bs, h => by
  rw [okB.go] at h
  rw [okL.go]
  exact ⟨okB_okL b h.1, go bs h.2⟩
theorem rowsOf_len (zs : List Int) : (rowsOf zs).length = zs.length := by simp [rowsOf]
theorem isS_one {k : Nat} {rows : List (List D)} {X : D} (h : IsS k rows X) : X.oneC = true := by obtain ⟨_, _, _, h⟩ := h; exact h
open Classical in
theorem blockGrows_ev {n : Nt} {N F : D} (hn : IsN n N F) (b c : Blk) {k nd a k2 nd2 a2 : Int} {K L K2 L2 : D} (h : IsB b k nd a K L) (h2 : IsB c k2 nd2 a2 K2 L2) :
  ev cfg (.call 4 [.agg [.dat N, .dat F], .agg [I k, I nd, I a, .dat K, .dat L], .agg [I k2, I nd2, I a2, .dat K2, .dat L2]] []) = some (.ret (B true) none) := by
 obtain ⟨oN, oF⟩ := isN_one hn
 obtain ⟨oK, oL⟩ := isB_one h
 obtain ⟨oK2, oL2⟩ := isB_one h2
 have hn' := hn
 obtain ⟨nr, fr, hN, hnr, _⟩ := hn'
 have hlg := fun bx : List Box => nlarge_ev hn bx
 cases hl : largeN n with
 | true =>
  rw [hl] at hlg
  exact es (grows_large hN oF oK oL oK2 oL2 hlg fun b0 b1 b2 => ev_of cfg (alt_k3 b0 b1 b2))
 | false =>
 rw [hl] at hlg
 have hb1 := big_ev b (m := 200) (d := 1) (l := 3) (bx := [[.dat N, .dat F], [I k, I nd, I a, .dat K, .dat L], [I k2, I nd2, I a2, .dat K2, .dat L2], [I 200]]) h (by omega) (by omega) (by omega) (by omega) rfl
 by_cases hg1 : (bigB 200 1 b).1 = true
 ·rw [hg1] at hb1
  exact es (grows_big1 hN oF oK oL oK2 oL2 hlg hb1 fun b0 b1 b2 b3 => ev_of cfg (alt_k4 b0 b1 b2 b3))
 have hg1f : (bigB 200 1 b).1 = false := by simpa using hg1
 rw [hg1f] at hb1
 have hb2 := big_ev c (m := 200) (d := 1) (l := 4) (bx := [[.dat N, .dat F], [I k, I nd, I a, .dat K, .dat L], [I k2, I nd2, I a2, .dat K2, .dat L2], [I (bigB 200 1 b).2], [I 200]]) h2 (by omega) (by omega) (by omega) (by omega) rfl
 by_cases hg2 : (bigB 200 1 c).1 = true
 ·rw [hg2] at hb2
  exact es (grows_big2 hN oF oK oL oK2 oL2 hlg hb1 hb2 fun b0 b1 b2 b3 b4 => ev_of cfg (alt_k5 b0 b1 b2 b3 b4))
 have hg2f : (bigB 200 1 c).1 = false := by simpa using hg2
 rw [hg2f] at hb2
 by_cases h3 : ((k == 3) || (k2 == 3)) = true
 ·exact es (grows_seq hN oF oK oL oK2 oL2 hlg hb1 hb2 h3 fun b0 b1 b2 b3 b4 => ev_of cfg (alt_k5 b0 b1 b2 b3 b4))
 rw [Bool.not_eq_true, Bool.or_eq_false_iff] at h3
 obtain ⟨k3, k4⟩ := h3
 obtain ⟨q1, q2, q3⟩ := large_size hl
 have ok1 := bigB_ok b 200 1 hg1
 have ok2 := bigB_ok c 200 1 hg2
 have z1 : sizeB b <= 201 := by have := bigB_lo b 200 1 hg1; have := bigB_size b 200 1 hg1; omega
 have z2 : sizeB c <= 201 := by have := bigB_lo c 200 1 hg2; have := bigB_size c 200 1 hg2; omega
 have hz : ∀ t ∈ termsN n, sizeT t <= 1000000 := fun t ht => by have := q3 t ht; omega
 obtain ⟨ok, hok⟩ : ∃ ok : Bool, ok = true ↔ OkN n := ⟨decide (OkN n), by simp⟩
 have hkb : kB b = k := by
  obtain ⟨k', nd', a', ks, ls⟩ := b
  rw [IsB] at h; exact h.1.symm
 have hkc : kB c = k2 := by
  obtain ⟨k', nd', a', ks, ls⟩ := c
  rw [IsB] at h2; exact h2.1.symm
 have ka : kB b ≠ 3 := by rw [hkb]; simpa using k3
 have kc : kB c ≠ 3 := by rw [hkc]; simpa using k4
 have hx : IsB (xB b c) 3 0 0 (.sl 5 [[dI k, dI nd, dI a, K, L], [dI k2, dI nd2, dI a2, K2, L2]]) .nil := by
  rw [xB, IsB]
  refine ⟨rfl, rfl, rfl, ⟨by omega, by omega⟩, ⟨by omega, by omega⟩, ⟨by omega, by omega⟩, _, ⟨5, rfl, by simp, rfl⟩, ?_, by simp, isS_nil 3, by simp, fun x hx => by cases hx⟩
  rw [IsB.IsBs]
  refine ⟨_, _, _, _, _, _, rfl, h, ?_⟩
  rw [IsB.IsBs]
  exact ⟨_, _, _, _, _, _, rfl, h2, by rw [IsB.IsBs]⟩
 have okx : okB (xB b c) := by
  rw [xB, okB]
  refine ⟨by simp, by simp, ?_⟩
  rw [okB.go, okB.go, okB.go]
  exact ⟨ok1, ok2, trivial⟩
 have hsx := size_x b c
 have zx : sizeB (xB b c) <= 1000 := by omega
 obtain ⟨X1, xs1, r1, e1, hl1⟩ := leaves_ev hn (by omega) (by omega) hz ok hok b h (by omega) (okB_okL b ok1)
 obtain ⟨X2, xs2, r2, e2, hl2⟩ := leaves_ev hn (by omega) (by omega) hz ok hok c h2 (by omega) (okB_okL c ok2)
 obtain ⟨X3, xs3, r3, e3, hl3⟩ := leaves_ev hn (by omega) (by omega) hz ok hok (xB b c) hx zx (okB_okL _ okx)
 have ha6 := fun b0 b1 b2 b3 b4 b5 => ev_of cfg (alt_k6 b0 b1 b2 b3 b4 b5)
 by_cases he : chkB ok n b ≠ 0 ∨ chkB ok n c ≠ 0
 ·have hg := chk_bad ka kc he
  exact es (grows_err hN oF oK oL oK2 oL2 hlg hb1 hb2 k3 k4 hl1 hl2 hl3 r1 r2 r3 (by simpa using he) (by simpa using hg) ha6)
 obtain ⟨c1, c2⟩ : chkB ok n b = 0 /\ chkB ok n c = 0 := ⟨by omega, by omega⟩
 rw [c1] at hl1
 rw [c2] at hl2
 obtain ⟨M1, M2, hM, hrefx⟩ := ref_ev _ hx okx
 obtain ⟨oM1, oM2⟩ := isB_one hM
 have hsz := fun bx : List Box => size_ev _ hx (by omega) bx
 have hdp := fun bx : List Box => depth_ev _ hM (by omega) bx
 have hwk : (decide (k >= 8) || (decide (k2 >= 8) || (decide (sizeB (xB b c) > 96) || decide (deepB (xB b c) > 24)))) = (decide (kB b >= 8) || (decide (kB c >= 8) || (decide (sizeB (xB b c) > 96) || decide (deepB (xB b c) > 24)))) := by rw [hkb, hkc]
 by_cases hw : (decide (kB b >= 8) || (decide (kB c >= 8) || (decide (sizeB (xB b c) > 96) || decide (deepB (xB b c) > 24)))) = true
 ·have hg := chk_stop ka kc c1 c2 hw
  exact es (grows_stop hN oF oK oL oK2 oL2 hlg hb1 hb2 k3 k4 hl1 hl2 hl3 r1 r2 r3 hsz hrefx hdp oM1 oM2 (hwk.trans hw) (by simpa using hg) ha6)
 rw [Bool.not_eq_true] at hw
 have hgo := chk_go (ok := ok) (n := n) ka kc c1 c2 hw
 obtain ⟨R1, R2, hR, hr1⟩ := ref_ev b h ok1
 obtain ⟨S1, S2, hS, hr2⟩ := ref_ev c h2 ok2
 obtain ⟨oR1, oR2⟩ := isB_one hR
 obtain ⟨oS1, oS2⟩ := isB_one hS
 have hnl : nr.length = n.nodes.length := hnr.1
 have loop : ∀ (m i : Nat) (sh : Bool), i + m = nr.length →
   ev cfg (.loop 4 13 ⟨(sh4_13 (.ptr 0 0) (.ptr 1 0) (.ptr 2 0) (.dat X1) (.dat X2) (.dat X3) (I (chkB ok n (xB b c))) (B sh) (I nr.length) (I i)), [[.dat N, .dat F], [I k, I nd, I a, .dat K, .dat L], [I k2, I nd2, I a2, .dat K2, .dat L2], [I (bigB 200 1 b).2], [I (bigB 200 1 c).2], [I 3, I 0, I 0, .dat (.sl 5 [[dI k, dI nd, dI a, K, L], [dI k2, dI nd2, dI a2, K2, L2]]), .dat .nil]], 0, none, false⟩) =
    some (.loop (.exit 0) ⟨(se4_13 (.dat X1) (.dat X2) (.dat X3) (I (chkB ok n (xB b c))) (B (sh || (List.range' i m).any (shN n b c)))), [[.dat N, .dat F], [I k, I nd, I a, .dat K, .dat L], [I k2, I nd2, I a2, .dat K2, .dat L2], [I (bigB 200 1 b).2], [I (bigB 200 1 c).2], [I 3, I 0, I 0, .dat (.sl 5 [[dI k, dI nd, dI a, K, L], [dI k2, dI nd2, dI a2, K2, L2]]), .dat .nil]], 0, none, false⟩) := by
  intro m
  induction m with
  | zero =>
   intro i sh hi
   rw [List.range'_zero, List.any_nil, Bool.or_false]
   exact es (grows_lend hN oF oK oL oK2 oL2 (isS_one r1) (isS_one r2) (isS_one r3) (by omega))
  | succ m ih =>
   intro i sh hi
   rw [List.range'_succ, List.any_cons]
   cases sh with
   | true =>
    have h4 := ih (i + 1) true (by omega)
    rw [Bool.true_or] at h4 ⊢
    exact es ((grows_t hN oF oK oL oK2 oL2 (isS_one r1) (isS_one r2) (isS_one r3) (by omega) (by omega)).trans h4)
   | false =>
    have ht1 := fun bx : List Box => times_ev hn (by omega) (i : Int) b hR (by omega) bx
    have ht2 := fun bx : List Box => times_ev hn (by omega) (i : Int) c hS (by omega) bx
    rw [Bool.false_or]
    cases c3 : decide ((((nodesB n b).count (i : Int) : Nat) : Int) > 0) with
    | false =>
     have h4 := ih (i + 1) false (by omega)
     have e : shN n b c i = false := by unfold shN; rw [c3, Bool.false_and]
     rw [e, Bool.false_or]
     rw [Bool.false_or] at h4
     exact es ((grows_0 hN oF oK oL oK2 oL2 (isS_one r1) (isS_one r2) (isS_one r3) (by omega) (by omega) hr1 hr2 oR1 oR2 oS1 oS2 ht1 c3).trans h4)
    | true =>
     have e : shN n b c i = decide ((((nodesB n c).count (i : Int) : Nat) : Int) > 0) := by unfold shN; rw [c3, Bool.true_and]
     have h4 := ih (i + 1) (decide ((((nodesB n c).count (i : Int) : Nat) : Int) > 0)) (by omega)
     rw [e]
     exact es ((grows_1 hN oF oK oL oK2 oL2 (isS_one r1) (isS_one r2) (isS_one r3) (by omega) (by omega) hr1 hr2 oR1 oR2 oS1 oS2 ht1 ht2 c3).trans h4)
 have hlp := loop nr.length 0 false (by omega)
 rw [Bool.false_or, <- List.range_eq_range', hnl, show (List.range n.nodes.length).any (shN n b c) = shB n b c from rfl, <- hnl] at hlp
 have o1 := chk0.1 c1
 have o2 := chk0.1 c2
 have hE := leads_ends (hok.1 o1.1).2.2.2.1
 have hsh := sh_iff (b := c) (nodes_in hE b o1.2.2.1) o1.2.2.2 o2.2.2.2
 have hw2 := hw
 simp only [Bool.or_eq_false_iff, decide_eq_false_iff_not] at hw2
 refine es (grows_end hN oF oK oL oK2 oL2 hlg hb1 hb2 k3 k4 hl1 hl2 hl3 r1 r2 r3 hsz hrefx hdp oM1 oM2 (hwk.trans hw) hlp ?_ (fun hs => ?_) ha6)
 ·rw [hgo]
  cases hs : shB n b c with
  | true => rw [if_neg (hsh.1 hs)]; rfl
  | false =>
   rw [if_pos (Classical.byContradiction fun hnd => by rw [hsh.2 hnd] at hs; cases hs)]; rfl
 ·have hnd : (nodesB n b ++ nodesB n c).Nodup := Classical.byContradiction fun hnd => by rw [hsh.2 hnd] at hs; cases hs
  rw [if_pos hnd] at hgo
  have f1 := e1 c1
  have f2 := e2 c2
  have f3 := e3 hgo
  have g1 : (lvL n b).length <= 1000000 := by
   have := nodesB_len (n := n) (by omega) b
   have hp := (sortI_perm (nodesB n b)).length_eq
   rw [lvL, if_neg (by omega)]
   have := List.length_filter_le (leafN n) (sortI (nodesB n b))
   omega
  have g2 : (lvL n c).length <= 1000000 := by
   have := nodesB_len (n := n) (by omega) c
   have hp := (sortI_perm (nodesB n c)).length_eq
   rw [lvL, if_neg (by omega)]
   have := List.length_filter_le (leafN n) (sortI (nodesB n c))
   omega
  have w1 : xs1.length = (lvL n b).length := by rw [f1, rowsOf_len]
  have w2 : xs2.length = (lvL n c).length := by rw [f2, rowsOf_len]
  have w3 : xs3.length = (lvL n b).length + (lvL n c).length := by rw [f3, rowsOf_len, lv_len (by omega) (by omega)]
  refine ⟨by rw [hgo]; rfl, ?_, by omega⟩
  rw [beq_iff_eq]
  omega
end Go.Proofs.YtifckjhggamefaaDoor
