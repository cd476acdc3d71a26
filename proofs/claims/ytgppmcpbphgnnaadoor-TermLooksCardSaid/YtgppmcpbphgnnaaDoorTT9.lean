/- TermLooks: whatever its arguments, the law's function answers true, and leaves them as they were; the table of words stands as the program's text lays it. -/
import Derived.Test.YtgppmcpbphgnnaaDoorTT
import Derived.Test.YtgppmcpbphgnnaaDoorL4
set_option linter.unusedSimpArgs false
set_option linter.unusedVariables false
set_option linter.unusedSectionVars false
namespace Go.Proofs.YtgppmcpbphgnnaaDoor
open Go Go.Vx
open Go.ChangeShapes Go.WideShapes Go.ChangeAt Go.WideElems Go.RowKit
set_option maxRecDepth 100000

theorem termLooks_lifted (os : Os) (started : os.Started) (H : Type) (enc : TypeId × Value → H) :
    ReturnsInHanded {} Tryd.checked os 9 .any (fun w args => (Rows.termLooksSpec.pre enc Tryd.prog Tryd.f9 [] false w args ∧ laidMetH Tryd.prog laidNames w) ∧ sizedMet enc Tryd.prog Tryd.f9 (OpenSpec.ofChange Rows.termLooksSpec) false w args)
      (Rows.termLooksSpec.post enc Tryd.prog Tryd.f9 false true false false) := by
  refine returnsInHanded_of_change_and (C := Tryd.checked) (X := fun w _ => laidMetH Tryd.prog laidNames w) (fun _ _ _ hh h => h.of_heap hh) own started (by kernel_rfl) Tryd.func9
    (ChangeSpec.witness_shaped (enc := enc) (C := Tryd.checked) (os := os) (X := fun w _ => laidMetH Tryd.prog laidNames w) false (World.doorLaid Tryd.prog 400 os) #[.agg #[.int .i64 0, .int .i64 0, .slice none 0 0], .agg #[.int .i64 0, .int .i64 0, .slice none 0 0]] 8 rfl (World.shaped_of_RefB (by kernel_rfl) (by kernel_rfl)) (by kernel_rfl) (by kernel_rfl) (by kernel_rfl) (door_met os _)) ?_
  intro W base args ds gs before hval0 hW _ _ hL _
  have hval : ∀ (j : Nat) t v, Tryd.f9.params[j]? = some t → args[j]? = some v → Value.okWide Tryd.prog W .any base t v := hval0
  have hW' := hW
  obtain ⟨p, q, hA0, hV, rfl, hfz, hnd⟩ := hW
  have hA : DataW.TrodAll enc Tryd.prog W 0 (fun _ => true) true Tryd.f9.params.toList args.toList ds p := hA0
  rw [Tryd.params9] at hA hval
  obtain ⟨v0, v1, d0, d1, p0, p1, rfl, rfl, rfl, h0, h1⟩ := trodAll_two hA
  obtain ⟨rfl, rfl⟩ := trodVars_none hV
  obtain ⟨cs0, rfl, hcs0⟩ := okWide_struct Tryd.underlying48 (hval 0 48 v0 rfl rfl)
  obtain ⟨cs1, rfl, hcs1⟩ := okWide_struct Tryd.underlying48 (hval 1 48 v1 rfl rfl)
  obtain ⟨fuel0, hf0⟩ := h0
  obtain ⟨D0, hfit0, hrel0⟩ := trod_fit ti_ok trmT_ok fuel0 48 cs0.toList _ (by decide) hf0
  obtain ⟨b0, k0, n0, K0, rfl, hB0⟩ := (fit_q hfit0).2.2.2 rfl
  obtain ⟨fuel1, hf1⟩ := h1
  obtain ⟨D1, hfit1, hrel1⟩ := trod_fit ti_ok trmT_ok fuel1 48 cs1.toList _ (by decide) hf1
  obtain ⟨b1, k1, n1, K1, rfl, hB1⟩ := (fit_q hfit1).2.2.2 rfl
  have hg := glob_ok hL
  clear hA0 hval0
  simp only [List.append_nil] at hW'
  refine (top_sound cfg_ok (termLooks_ev b0 b1 hB0 hB1 []) hg (us := [.agg cs0, .agg cs1]) rfl (fun j c u hc hu => ?_)).mono fun e W' he => ?_
  · match j, hc, hu with
    | 0, hc, hu =>
      simp only [List.getElem?_cons_succ, List.getElem?_cons_zero, Option.some.injEq] at hc hu
      subst hc; subst hu
      exact relA_agg hrel0
    | 1, hc, hu =>
      simp only [List.getElem?_cons_succ, List.getElem?_cons_zero, Option.some.injEq] at hc hu
      subst hc; subst hu
      exact relA_agg hrel1
    | j + 2, hc, hu => simp at hc
  · cases e with
    | returned u =>
      obtain ⟨rfl, hb⟩ := he
      refine ⟨_, rfl, post_below (pa := p0 ++ p1) (pv := []) hW' (fun _ _ _ => trodAll_mk1 (shut_bool Tryd.underlying4 _)) (fun sp hsp => ?_) (fun _ _ => rfl) (by simp) hb (ok_one (by kernel_rfl) rfl (okWide_bool_mk Tryd.underlying4 _))⟩
      have hlt : ∀ x ∈ p0 ++ p1, x.block < W.heap.size := fun x hx => hW'.lt x (by simpa using hx)
      exact trodAll_mk2 (WideElems.Trod_stays laidOut (by kernel_rfl) (by decide +kernel) ⟨fuel0, hf0⟩ (fun x hx => hb.same (hlt x (List.mem_append_left _ hx))) (fun x hx => hsp x (by simpa using .inl hx)))
        (WideElems.Trod_stays laidOut (by kernel_rfl) (by decide +kernel) ⟨fuel1, hf1⟩ (fun x hx => hb.same (hlt x (List.mem_append_right _ hx))) (fun x hx => hsp x (by simpa using .inr hx)))
    | panicked => exact he.elim
    | outgrown => exact he.elim

theorem termLooks_holds : Rows.TermLooksSaid :=
  OpenClaim.holds_of_wide 9 Tryd.f9 rfl rfl rfl rfl rfl rfl rfl ⟨rfl, rfl, rfl, rfl, rfl⟩ rfl rfl rfl rfl rfl (by kernel_rfl) Tryd.func9 (by kernel_rfl)
    (of_decide_eq_true (by kernel_rfl)) (by unfold Func.isWrapper; first | (rw [if_pos (by decide +kernel)]; kernel_rfl) | (rw [if_neg (by decide +kernel)]; exact ⟨rfl, rfl⟩))
    (fun os started H enc _ => termLooks_lifted os started H enc)

theorem termLooks_card : Rows.TermLooksCardSaid :=
  Claim7.holds_tied_plain_at .later [] [.widerDeep] true (true, "0b167b655fafd375e1dbaf38ef57f1b0abd5993057caeb486b83f4900a390444") false
    termLooks_holds (fun _ h => by cases h) (by kernel_rfl) (fun _ h => by cases h) termLooks_row_tie rfl ⟨rfl, rfl⟩ (by kernel_rfl) rfl
    (fun f fn hf hfn => by
      obtain rfl : f = 9 := Option.some.inj ((show Tryd.prog.funcNamed "treenail/treenaillaw03.TermLooks" = some 9 by kernel_rfl).symm.trans hf) |>.symm
      obtain rfl : fn = Tryd.f9 := (Option.some.inj (Tryd.func9.symm.trans hfn)).symm
      exact ⟨by kernel_rfl, fun j t ht => by
        rw [Tryd.params9] at ht
        have hm : t ∈ [48, 48] := by simpa using Array.mem_of_getElem? ht
        have hall : ([48, 48].all fun u => !Tryd.prog.wantsStandIn u) = true := by kernel_rfl
        exact (show Tryd.prog.wantsStandIn t = false by simpa using List.all_eq_true.1 hall t hm)⟩)
    (by kernel_rfl)
#print axioms termLooks_card
end Go.Proofs.YtgppmcpbphgnnaaDoor
