/- FoldFolds: whatever the process, it is true. No condition. -/
import Derived.Test.YtifckjhggamefaaGreatDoorGA
import Derived.Test.YtifckjhggamefaaGreatDoorGr
import Derived.Test.YtifckjhggamefaaGreatDoorGx
import Derived.Test.YtifckjhggamefaaGreatDoorGq
import Derived.KernelRfl
import Derived.Test.YtifckjhggamefaaGreatDoorGo
set_option linter.unusedSimpArgs false
set_option linter.unusedVariables false
set_option linter.unusedSectionVars false
namespace Go.Proofs.YtifckjhggamefaaGreatDoor
open Go Go.Vx
set_option maxRecDepth 10000
set_option maxHeartbeats 1000000
def isB' (b : Blk) : Prop := match b with
 | .mk k n a ks ls => IsB (.mk k n a ks ls) k n a (mkD 5 (cB.cBs ks)) (mkD 3 (ls.map lnkD))
theorem isBs_in : ∀ {bs : List Blk}, (∀ b ∈ bs, isB' b) -> IsB.IsBs bs (cB.cBs bs)
 | [], _ => by rw [IsB.IsBs]; rfl
 | b :: bs, h => by
  have h1 := h b mcs
  have h2 := isBs_in (bs := bs) fun c hc => h c (mcm _ hc)
  obtain ⟨k, n, a, ks, ls⟩ := b
  rw [IsB.IsBs]
  exact ⟨k, n, a, _, _, cB.cBs bs, rfl, h1, h2⟩
theorem isB_mk {k n a : Int} {ks : List Blk} {ls : List Lk} (h1 : i64 k) (h2 : i64 n) (h3 : i64 a) (hk : ∀ b ∈ ks, isB' b) (l1 : ks.length <= 1000) (l2 : ls.length <= 1000) (hl : ∀ x ∈ ls, i64 x.1 /\ i64 x.2.1 /\ i64 x.2.2) : isB' (.mk k n a ks ls) := by
 show IsB _ _ _ _ _ _
 rw [IsB]
 exact ⟨rfl, rfl, rfl, h1, h2, h3, cB.cBs ks, mkD_isS 5 _, isBs_in hk, by omega, mkD_isS 3 _, by omega, hl⟩
theorem okK_is : ∀ (b : Blk), okK b -> szB b <= 1000 -> isB' b
 | .mk k n a ks ls, h, hs => by
  rw [okK] at h
  obtain ⟨hk, hn, ha, rfl, hks⟩ := h
  rw [szB] at hs
  have := szBs_len (xs := ks)
  exact isB_mk (i64_s (by omega)) (i64_s (by omega)) (i64_s (by omega)) (go ks hks (by omega)) (by omega) (by simp) (by simp)
where
 go : ∀ (bs : List Blk), okK.okKs bs -> szB.szBs bs <= 1000 -> ∀ b ∈ bs, isB' b
 | [], _, _ => by simp
 | b :: bs, h, hs => by
  rw [okK.okKs] at h
  rw [szB.szBs] at hs
  have h1 := okK_is b h.1 (by omega)
  have h2 := go bs h.2 (by omega)
  intro c hc
  rcases List.mem_cons.1 hc with rfl | hc
  ·exact h1
  ·exact h2 c hc
theorem okK_ok : ∀ (b : Blk), okK b -> szB b <= 100 -> okB b
 | .mk k n a ks ls, h, hs => by
  rw [okK] at h
  obtain ⟨hk, hn, ha, rfl, hks⟩ := h
  rw [szB] at hs
  have := szBs_len (xs := ks)
  rw [okB]
  exact ⟨by omega, by simp, go ks hks (by omega)⟩
where
 go : ∀ (bs : List Blk), okK.okKs bs -> szB.szBs bs <= 100 -> okB.go bs
 | [], _, _ => by rw [okB.go]; trivial
 | b :: bs, h, hs => by
  rw [okK.okKs] at h
  rw [szB.szBs] at hs
  rw [okB.go]
  exact ⟨okK_ok b h.1 (by omega), go bs h.2 (by omega)⟩
section
variable {n : Nt}
theorem web_kids {w : Wb} (hw : InvW n w) : ∀ b ∈ w.ks, okK b /\ szB b <= 64 := by
 intro b hb
 obtain ⟨i, hi⟩ := List.getElem?_of_mem hb
 refine ⟨(hw.kid i b hi).ok, ?_⟩
 have h3 := set_size (c := emptyB) hi
 have h4 := hw.size
 have h7 := sizeAt_get hi
 have h8 := drop_size (ks := w.ks) (gone := fun x => x == i) (L := [i]) (by simp) (by simp)
 simp [h7] at h8
 omega
theorem web_is {w : Wb} (hn : n.flows.length <= 100) (hw : InvW n w) : isB' (.mk 9 0 0 w.ks w.ls) := by
 have hl := hw.lens
 refine isB_mk (i64_s (by omega)) (i64_s (by omega)) (i64_s (by omega)) (fun b hb => okK_is b (web_kids hw b hb).1 (by have := (web_kids hw b hb).2; omega)) (by omega) (by omega) fun x hx => ?_
 have := hw.rng x hx
 exact ⟨i64_s (by omega), i64_s (by omega), i64_s (by omega)⟩
theorem oks_in : ∀ {bs : List Blk}, (∀ b ∈ bs, okB b) -> okB.go bs
 | [], _ => by rw [okB.go]; trivial
 | b :: bs, h => by rw [okB.go]; exact ⟨h b mcs, oks_in fun c hc => h c (mcm _ hc)⟩
theorem web_ok {w : Wb} (hw : InvW n w) : okB (.mk 9 0 0 w.ks w.ls) := by
 have hl := hw.lens
 rw [okB]
 exact ⟨by omega, by omega, oks_in fun b hb => okK_ok b (web_kids hw b hb).1 (by have := (web_kids hw b hb).2; omega)⟩
theorem res_is {w : Wb} (hn : n.flows.length <= 100) (hw : InvW n w) : isB' (resW w) /\ okB (resW w) := by
 have hweb : isB' (.mk 9 0 0 w.ks w.ls) /\ okB (.mk 9 0 0 w.ks w.ls) := ⟨web_is hn hw, web_ok hw⟩
 have hemp : isB' emptyB /\ okB emptyB := ⟨okK_is _ emptyB_ok (by decide), okK_ok _ emptyB_ok (by decide)⟩
 have hk := web_kids hw
 rw [resW]
 match hq : w.ks with
 | [] => exact hemp
 | [b] =>
  simp only
  have hb := hk b (by rw [hq]; exact mcs)
  split
  ·exact ⟨okK_is b hb.1 (by omega), okK_ok b hb.1 (by omega)⟩
  ·rw [<- hq]; exact hweb
 | b :: c :: bs =>
  simp only
  rw [<- hq]; exact hweb
theorem text_k (b0 b1 b2 b3 : Box) : evN cfg 90 (.call 26 [Wq 5 1 0 (mkD 5 (cB.cBs [.mk 2 2 0 [] [], .mk 1 0 0 [] []])) (mkD 3 (([] : List Lk).map lnkD))] [b0, b1, b2, b3]) = Rq (.tup [S ⟨#[40, 97, 108, 116, 58, 49, 32, 50, 32, 45, 41]⟩, I 0]) := by kernel_rfl
theorem text_k4 (b0 b1 b2 b3 b4 b5 b6 : Box) : evN cfg 90 (.call 26 [Wq 5 1 0 (mkD 5 (cB.cBs [.mk 2 2 0 [] [], .mk 1 0 0 [] []])) (mkD 3 (([] : List Lk).map lnkD))] [b0, b1, b2, b3, b4, b5, b6]) = Rq (.tup [S ⟨#[40, 97, 108, 116, 58, 49, 32, 50, 32, 45, 41]⟩, I 0]) := by kernel_rfl
theorem xalt_ev (c0 : Box) : ev cfg (.call 8 [] [c0]) = Rq (B true) := by
 have hz : ∀ t ∈ termsN nalt, sizeT t <= 1000000 := by
  intro t ht
  simp only [termsN, nalt, List.map_cons, List.map_nil, List.cons_append, List.nil_append, List.mem_cons, List.not_mem_nil, or_false] at ht
  rcases ht with rfl | rfl | rfl | rfl | rfl | rfl | rfl | rfl | rfl | rfl <;> simp [tz, tyes, sizeT, sizeT.go]
 have hf := fun bx : List Box => (fold_ev nalt_is (by simp [nalt]) (by simp [nalt]) hz bx).1 nalt_ok
 rw [nalt_fold] at hf
 exact es (xalt_f hf (mkD_one 5 _) (mkD_one 3 _) fun b0 b1 b2 b3 => ev_of cfg (text_k b0 b1 b2 b3))
theorem xalt_ev4 (c0 c1 c2 c3 : Box) : ev cfg (.call 8 [] [c0, c1, c2, c3]) = Rq (B true) := by
 have hz : ∀ t ∈ termsN nalt, sizeT t <= 1000000 := by
  intro t ht
  simp only [termsN, nalt, List.map_cons, List.map_nil, List.cons_append, List.nil_append, List.mem_cons, List.not_mem_nil, or_false] at ht
  rcases ht with rfl | rfl | rfl | rfl | rfl | rfl | rfl | rfl | rfl | rfl <;> simp [tz, tyes, sizeT, sizeT.go]
 have hf := fun bx : List Box => (fold_ev nalt_is (by simp [nalt]) (by simp [nalt]) hz bx).1 nalt_ok
 rw [nalt_fold] at hf
 exact es (xalt_f4 hf (mkD_one 5 _) (mkD_one 3 _) fun b0 b1 b2 b3 b4 b5 b6 => ev_of cfg (text_k4 b0 b1 b2 b3 b4 b5 b6))
open Classical in
theorem foldFolds_ev {N F : D} (h : IsN n N F) : ev cfg (.call 3 [Nq N F] []) = Rq (B true) := by
 obtain ⟨oN, oF⟩ := xisN_one h
 have hlg := fun bx : List Box => nlarge_ev h bx
 cases hl : largeN n with
 | true =>
  rw [hl] at hlg
  exact es (xlaw_large oN oF hlg xalt_ev)
 | false =>
  rw [hl] at hlg
  obtain ⟨q1, q2, q3⟩ := large_size hl
  have hz : ∀ t ∈ termsN n, sizeT t <= 1000000 := fun t ht => by have := q3 t ht; omega
  have h1 := fun bx : List Box => fold_ev h (by omega) (by omega) hz bx
  have h2 := fun bx : List Box => xfold_ev h (by omega) (by omega) hz bx
  have h3 := fun bx : List Box => begin_ev h (by omega) (by omega) hz bx
  by_cases hok : OkN n
  ·have hw := begin_inv hok
   have hG := ok_gates hok
   have hr := res_is (by omega) (folds_inv hG 100 hw)
   have g1 := fun bx : List Box => (h1 bx).1 hok
   have g2 := fun bx : List Box => (h2 bx).1 hok
   have g3 := fun bx : List Box => (h3 bx).1 hok
   have gb := xbegin_ev h hok
   have i3 := web_is (by omega) hw
   have k3 := web_ok hw
   rw [foldN] at g1 g2
   generalize resW (foldsW n 100 (beginW n)) = b at hr g1 g2
   generalize beginW n = w at i3 k3 g3 gb
   obtain ⟨i1, k1⟩ := hr
   have hs := rsame_ev
   obtain ⟨M3, M4, j3, r3⟩ := ref_ev _ i3 k3
   obtain ⟨k, nn, a, ks, ls⟩ := b
   obtain ⟨M1, M2, j1, r1⟩ := ref_ev _ i1 k1
   obtain ⟨o1, o2⟩ := isB_one j1
   obtain ⟨o3, o4⟩ := isB_one j3
   have s1 := rsame_ev _ _ j1 i1
   have s3 := rsame_ev _ _ j3 i3
   rw [sameB_refl] at s1 s3
   exact es (xlaw_ok oN oF hlg xalt_ev4 g1 g2 g3 (mkD_one 5 _) (mkD_one 3 _) (mkD_one 5 _) (mkD_one 3 _) r1 o1 o2 s1 r3 o3 o4 gb s3)
  ·have g1 := fun bx : List Box => (h1 bx).2 hok
   have g2 := fun bx : List Box => (h2 bx).2 hok
   have g3 := fun bx : List Box => (h3 bx).2 hok
   have hk : okK (.mk 0 0 0 [] []) := by simp [okK, okK.okKs]
   have i1 : isB' (.mk 0 0 0 [] []) := okK_is _ hk (by simp [szB, szB.szBs])
   obtain ⟨M1, M2, j1, r1⟩ := ref_ev _ i1 (okK_ok _ hk (by simp [szB, szB.szBs]))
   obtain ⟨o1, o2⟩ := isB_one j1
   have s1 := rsame_ev _ _ j1 i1
   rw [sameB_refl] at s1
   exact es (xlaw_err oN oF hlg xalt_ev4 g1 g2 g3 r1 o1 o2 s1)
end
open Go.ChangeShapes Go.WideShapes Go.ChangeAt Go.WideElems Go.RowKit
set_option maxRecDepth 100000
theorem foldFolds_lifted (os : Os) (started : os.Started) (H : Type) (enc : TypeId × Value -> H) :
  ReturnsInHanded {} Tryz.checked os 3 .any (fun w args => (Rows.foldFoldsSpec.pre enc Tryz.prog Tryz.f3 [] false w args /\ laidMetH Tryz.prog laidNames w) /\ sizedMet enc Tryz.prog Tryz.f3 (OpenSpec.ofChange Rows.foldFoldsSpec) false w args)
   (Rows.foldFoldsSpec.post enc Tryz.prog Tryz.f3 false true false false) := by
 refine returnsInHanded_of_change_and (C := Tryz.checked) (X := fun w _ => laidMetH Tryz.prog laidNames w) (fun _ _ _ hh h => h.of_heap hh) own started (by kernel_rfl) Tryz.func3
  (ChangeSpec.witness_shaped (enc := enc) (C := Tryz.checked) (os := os) (X := fun w _ => laidMetH Tryz.prog laidNames w) false (World.doorLaid Tryz.prog 400 os) #[.agg #[.slice none 0 0, .slice none 0 0]] 8 rfl (World.shaped_of_RefB (by kernel_rfl) (by kernel_rfl)) (by kernel_rfl) (by kernel_rfl) (by kernel_rfl) (door_met os _)) ?_
 intro W base args ds gs before hval0 hW _ _ hL _
 have hval : ∀ (j : Nat) t v, Tryz.f3.params[j]? = some t -> args[j]? = some v -> Value.okWide Tryz.prog W .any base t v := hval0
 have hW' := hW
 obtain ⟨p, q, hA0, hV, rfl, hfz, hnd⟩ := hW
 have hA : DataW.TrodAll enc Tryz.prog W 0 (fun _ => true) true Tryz.f3.params.toList args.toList ds p := hA0
 rw [Tryz.params3] at hA hval
 obtain ⟨v0, d0, rfl, rfl, h0⟩ := trodAll_one hA
 obtain ⟨rfl, rfl⟩ := trodVars_none hV
 obtain ⟨cs0, rfl, hcs0⟩ := okWide_struct Tryz.underlying25 (hval 0 25 v0 rfl rfl)
 obtain ⟨fuel0, hf0⟩ := h0
 obtain ⟨D0, hfit0, hrel0⟩ := trod_fit ti_ok fitT_ok fuel0 25 cs0.toList _ (by decide) hf0
 obtain ⟨b0, N0, F0, rfl, hB0⟩ := (fit_q hfit0).net rfl
 have hg := glob_ok hL
 clear hA0 hval0
 simp only [List.append_nil] at hW'
 refine (top_sound cfg_ok (foldFolds_ev hB0) hg (us := [.agg cs0]) rfl (fun j c u hc hu => ?_)).mono fun e W' he => ?_
 ·match j, hc, hu with
  | 0, hc, hu =>
   simp only [List.getElem?_cons_succ, List.getElem?_cons_zero, sjE] at hc hu
   subst hc; subst hu
   exact relA_agg hrel0
  | j + 1, hc, hu => simp at hc
 ·cases e with
  | returned u =>
   obtain ⟨rfl, hb⟩ := he
   refine ⟨_, rfl, post_below (pa := p) (pv := []) hW' (fun _ _ _ => trodAll_mk1 (shut_bool Tryz.underlying4 _)) (fun sp hsp => ?_) (fun _ _ => rfl) (by simp) hb (ok_one (by kernel_rfl) rfl (okWide_bool_mk Tryz.underlying4 _))⟩
   have hlt : ∀ x ∈ p, x.block < W.heap.size := fun x hx => hW'.lt x (by simpa using hx)
   have hsp' : ∀ x ∈ p, sp x.block = true := fun x hx => hsp x (by simpa using hx)
   exact trodAll_mk1 (WideElems.Trod_stays laidOut (by kernel_rfl) (by decide +kernel) ⟨fuel0, hf0⟩ (fun x hx => hb.same (hlt x hx)) (fun x hx => hsp' x hx))
  | panicked => exact he.elim
  | outgrown => exact he.elim
theorem foldFolds_holds : Rows.FoldFoldsSaid :=
 OpenClaim.holds_of_wide 3 Tryz.f3 rfl rfl rfl rfl rfl rfl rfl ⟨rfl, rfl, rfl, rfl, rfl⟩ rfl rfl rfl rfl rfl (by kernel_rfl) Tryz.func3 (by kernel_rfl)
  (of_decide_eq_true (by kernel_rfl)) (by unfold Func.isWrapper; first | (rw [if_pos (by decide +kernel)]; kernel_rfl) | (rw [if_neg (by decide +kernel)]; exact ⟨rfl, rfl⟩))
  (fun os started H enc _ => foldFolds_lifted os started H enc)
theorem foldFolds_card : Rows.FoldFoldsCardSaid :=
 Claim7.holds_tied_plain_at .later [] [.widerDeep, .data] true (true, "9d75f9c0ebd5a2f332765d340f49f917db3049bf4453aebe46905d788bb2aee2") false
  foldFolds_holds (fun _ h => by cases h) (by kernel_rfl) (fun _ h => by cases h) foldFolds_row_tie rfl ⟨rfl, rfl⟩ (by kernel_rfl) rfl
  (fun f fn hf hfn => by
   obtain rfl : f = 3 := sij ((show Tryz.prog.funcNamed "treenail/treenaillaw11.FoldFolds" = some 3 by kernel_rfl).symm.trans hf) |>.symm
   obtain rfl : fn = Tryz.f3 := (sij (Tryz.func3.symm.trans hfn)).symm
   exact ⟨by kernel_rfl, fun j t ht => by
    rw [Tryz.params3] at ht
    have hm : t ∈ [25] := by simpa using Array.mem_of_getElem? ht
    have hall : ([25].all fun u => !Tryz.prog.wantsStandIn u) = true := by kernel_rfl
    exact (show Tryz.prog.wantsStandIn t = false by simpa using List.all_eq_true.1 hall t hm)⟩)
  (by kernel_rfl)
#print axioms foldFolds_card
end Go.Proofs.YtifckjhggamefaaGreatDoor
