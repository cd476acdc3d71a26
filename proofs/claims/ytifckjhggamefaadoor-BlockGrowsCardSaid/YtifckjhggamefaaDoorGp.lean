/- BlockGrows: whatever its arguments, the law's function answers true, and leaves them as they were; the tables stand as the program's text lays them. -/
import Derived.Test.YtifckjhggamefaaDoorGi
import Derived.Test.YtifckjhggamefaaDoorGo
set_option linter.unusedSimpArgs false
set_option linter.unusedVariables false
set_option linter.unusedSectionVars false
namespace Go.Proofs.YtifckjhggamefaaDoor
open Go Go.Vx
open Go.ChangeShapes Go.WideShapes Go.ChangeAt Go.WideElems Go.RowKit
set_option maxRecDepth 100000
theorem blockGrows_lifted (os : Os) (started : os.Started) (H : Type) (enc : TypeId × Value -> H) :
  ReturnsInHanded {} Tryd.checked os 4 .any (fun w args => (Rows.blockGrowsSpec.pre enc Tryd.prog Tryd.f4 [] false w args /\ laidMetH Tryd.prog laidNames w) /\ sizedMet enc Tryd.prog Tryd.f4 (OpenSpec.ofChange Rows.blockGrowsSpec) false w args)
   (Rows.blockGrowsSpec.post enc Tryd.prog Tryd.f4 false true false false) := by
 refine returnsInHanded_of_change_and (C := Tryd.checked) (X := fun w _ => laidMetH Tryd.prog laidNames w) (fun _ _ _ hh h => h.of_heap hh) own started (by kernel_rfl) Tryd.func4
  (ChangeSpec.witness_shaped (enc := enc) (C := Tryd.checked) (os := os) (X := fun w _ => laidMetH Tryd.prog laidNames w) false (World.doorLaid Tryd.prog 400 os) #[.agg #[.slice none 0 0, .slice none 0 0], .agg #[.int .i64 0, .int .i64 0, .int .i64 0, .slice none 0 0, .slice none 0 0], .agg #[.int .i64 0, .int .i64 0, .int .i64 0, .slice none 0 0, .slice none 0 0]] 8 rfl (World.shaped_of_RefB (by kernel_rfl) (by kernel_rfl)) (by kernel_rfl) (by kernel_rfl) (by kernel_rfl) (door_met os _)) ?_
 intro W base args ds gs before hval0 hW _ _ hL _
 have hval : ∀ (j : Nat) t v, Tryd.f4.params[j]? = some t -> args[j]? = some v -> Value.okWide Tryd.prog W .any base t v := hval0
 have hW' := hW
 obtain ⟨p, q, hA0, hV, rfl, hfz, hnd⟩ := hW
 have hA : DataW.TrodAll enc Tryd.prog W 0 (fun _ => true) true Tryd.f4.params.toList args.toList ds p := hA0
 rw [Tryd.params4] at hA hval
 obtain ⟨v0, v1, v2, d0, d1, d2, p0, p1, p2, rfl, rfl, rfl, h0, h1, h2⟩ := trodAll_three hA
 obtain ⟨rfl, rfl⟩ := trodVars_none hV
 obtain ⟨cs0, rfl, hcs0⟩ := okWide_struct Tryd.underlying25 (hval 0 25 v0 rfl rfl)
 obtain ⟨cs1, rfl, hcs1⟩ := okWide_struct Tryd.underlying29 (hval 1 29 v1 rfl rfl)
 obtain ⟨cs2, rfl, hcs2⟩ := okWide_struct Tryd.underlying29 (hval 2 29 v2 rfl rfl)
 obtain ⟨fuel0, hf0⟩ := h0
 obtain ⟨D0, hfit0, hrel0⟩ := trod_fit ti_ok fitT_ok fuel0 25 cs0.toList _ (by decide) hf0
 obtain ⟨b0, N0, F0, rfl, hB0⟩ := (fit_q hfit0).net rfl
 obtain ⟨fuel1, hf1⟩ := h1
 obtain ⟨D1, hfit1, hrel1⟩ := trod_fit ti_ok fitT_ok fuel1 29 cs1.toList _ (by decide) hf1
 obtain ⟨b1, k1, n1, a1, K1, L1, rfl, hB1⟩ := (fit_q hfit1).block rfl
 obtain ⟨fuel2, hf2⟩ := h2
 obtain ⟨D2, hfit2, hrel2⟩ := trod_fit ti_ok fitT_ok fuel2 29 cs2.toList _ (by decide) hf2
 obtain ⟨b2, k2, n2, a2, K2, L2, rfl, hB2⟩ := (fit_q hfit2).block rfl
 have hg := glob_ok hL
 clear hA0 hval0
 simp only [List.append_nil] at hW'
 refine (top_sound cfg_ok (blockGrows_ev hB0 b1 b2 hB1 hB2) hg (us := [.agg cs0, .agg cs1, .agg cs2]) rfl (fun j c u hc hu => ?_)).mono fun e W' he => ?_
 ·match j, hc, hu with
  | 0, hc, hu =>
   simp only [List.getElem?_cons_succ, List.getElem?_cons_zero, sjE] at hc hu
   subst hc; subst hu
   exact relA_agg hrel0
  | 1, hc, hu =>
   simp only [List.getElem?_cons_succ, List.getElem?_cons_zero, sjE] at hc hu
   subst hc; subst hu
   exact relA_agg hrel1
  | 2, hc, hu =>
   simp only [List.getElem?_cons_succ, List.getElem?_cons_zero, sjE] at hc hu
   subst hc; subst hu
   exact relA_agg hrel2
  | j + 3, hc, hu => simp at hc
 ·cases e with
  | returned u =>
   obtain ⟨rfl, hb⟩ := he
   refine ⟨_, rfl, post_below (pa := p0 ++ (p1 ++ p2)) (pv := []) hW' (fun _ _ _ => trodAll_mk1 (shut_bool Tryd.underlying4 _)) (fun sp hsp => ?_) (fun _ _ => rfl) (by simp) hb (ok_one (by kernel_rfl) rfl (okWide_bool_mk Tryd.underlying4 _))⟩
   have hlt : ∀ x ∈ p0 ++ (p1 ++ p2), x.block < W.heap.size := fun x hx => hW'.lt x (by simpa using hx)
   have hsp' : ∀ x ∈ p0 ++ (p1 ++ p2), sp x.block = true := fun x hx => hsp x (by simpa using hx)
   exact trodAll_mk3 (WideElems.Trod_stays laidOut (by kernel_rfl) (by decide +kernel) ⟨fuel0, hf0⟩ (fun x hx => hb.same (hlt x (List.mem_append_left _ hx))) (fun x hx => hsp' x (List.mem_append_left _ hx))) (WideElems.Trod_stays laidOut (by kernel_rfl) (by decide +kernel) ⟨fuel1, hf1⟩ (fun x hx => hb.same (hlt x (List.mem_append_right _ (List.mem_append_left _ hx)))) (fun x hx => hsp' x (List.mem_append_right _ (List.mem_append_left _ hx)))) (WideElems.Trod_stays laidOut (by kernel_rfl) (by decide +kernel) ⟨fuel2, hf2⟩ (fun x hx => hb.same (hlt x (List.mem_append_right _ (List.mem_append_right _ hx)))) (fun x hx => hsp' x (List.mem_append_right _ (List.mem_append_right _ hx))))
  | panicked => exact he.elim
  | outgrown => exact he.elim
theorem blockGrows_holds : Rows.BlockGrowsSaid :=
 OpenClaim.holds_of_wide 4 Tryd.f4 rfl rfl rfl rfl rfl rfl rfl ⟨rfl, rfl, rfl, rfl, rfl⟩ rfl rfl rfl rfl rfl (by kernel_rfl) Tryd.func4 (by kernel_rfl)
  (of_decide_eq_true (by kernel_rfl)) (by unfold Func.isWrapper; first | (rw [if_pos (by decide +kernel)]; kernel_rfl) | (rw [if_neg (by decide +kernel)]; exact ⟨rfl, rfl⟩))
  (fun os started H enc _ => blockGrows_lifted os started H enc)
theorem blockGrows_card : Rows.BlockGrowsCardSaid :=
 Claim7.holds_tied_plain_at .later [] [.widerDeep, .data] true (true, "9d4823b12511e07216f998c591c04d5df61a1a0ba1a45117e2945e03e0676f10") false
  blockGrows_holds (fun _ h => by cases h) (by kernel_rfl) (fun _ h => by cases h) blockGrows_row_tie rfl ⟨rfl, rfl⟩ (by kernel_rfl) rfl
  (fun f fn hf hfn => by
   obtain rfl : f = 4 := sij ((show Tryd.prog.funcNamed "treenail/treenaillaw10.BlockGrows" = some 4 by kernel_rfl).symm.trans hf) |>.symm
   obtain rfl : fn = Tryd.f4 := (sij (Tryd.func4.symm.trans hfn)).symm
   exact ⟨by kernel_rfl, fun j t ht => by
    rw [Tryd.params4] at ht
    have hm : t ∈ [25, 29, 29] := by simpa using Array.mem_of_getElem? ht
    have hall : ([25, 29, 29].all fun u => !Tryd.prog.wantsStandIn u) = true := by kernel_rfl
    exact (show Tryd.prog.wantsStandIn t = false by simpa using List.all_eq_true.1 hall t hm)⟩)
  (by kernel_rfl)
#print axioms blockGrows_card
end Go.Proofs.YtifckjhggamefaaDoor
