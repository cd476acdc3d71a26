/- PostSteps: whatever its arguments, the law's function answers true, and leaves them as they were. -/
import Derived.Test.YtgppmcpbphgnnaaPR
import Derived.ChangeSame
import Derived.JoinedOf
import Derived.JoinedAt
set_option linter.unusedSimpArgs false
set_option linter.unusedVariables false
set_option linter.unusedSectionVars false
namespace Go.Proofs.Ytgppmcpbphgnnaa
open Go Go.Vx
open Go.ChangeShapes Go.WideShapes Go.ChangeAt Go.WideElems Go.RowKit
set_option maxRecDepth 100000

theorem postSteps_lifted (os : Os) (started : os.Started) (H : Type) (enc : TypeId × Value → H) :
    ReturnsInHanded {} Try.checked os 3 .any (Rows.postStepsSpec.pre6 enc Try.prog Try.f3 Rows.postStepsRow.domain false) (Rows.postStepsSpec.post enc Try.prog Try.f3 Rows.postStepsRow.apart Rows.postStepsRow.fresh Rows.postStepsRow.handsOn Rows.postStepsRow.again) := by
  refine returnsInHanded_of_change (C := Try.checked) own started (by kernel_rfl) Try.func3
    (ChangeSpec.witness6 (enc := enc) (C := Try.checked) false ⟨#[], #[.slice none 0 0, .int .i64 0], []⟩ 8 (by kernel_rfl) (by kernel_rfl) (by kernel_rfl) (by kernel_rfl)) ?_
  intro W base args ds gs before hval0 hW _ _
  have hval : ∀ (j : Nat) t v, Try.f3.params[j]? = some t → args[j]? = some v → Value.okWide Try.prog W .any base t v := hval0
  have hW' := hW
  obtain ⟨p, q, hA0, hV, rfl, hfz, hnd⟩ := hW
  have hA : DataW.TrodAll enc Try.prog W 0 (fun _ => true) true Try.f3.params.toList args.toList ds p := hA0
  rw [Try.params3] at hA hval
  obtain ⟨v0, v1, d0, d1, p0, p1, rfl, rfl, rfl, h0, h1⟩ := trodAll_two hA
  obtain ⟨rfl, rfl⟩ := trodVars_none hV
  obtain ⟨K0, ss0, r0, k0, m0⟩ := arg_steps (hval 0 22 v0 rfl rfl) h0
  obtain ⟨n1, r1⟩ := arg_int (hval 1 3 v1 rfl rfl)
  clear hA0 hval0
  simp only [List.append_nil] at hW'
  refine (top_sound cfg_ok (postSteps_ev n1 k0 m0) (glob_ok W) (us := [v0, v1]) rfl (fun j c u hc hu => ?_)).mono fun e W' he => ?_
  · match j, hc, hu with
    | 0, hc, hu =>
      simp only [List.getElem?_cons_succ, List.getElem?_cons_zero, Option.some.injEq] at hc hu
      subst hc; subst hu
      exact r0
    | 1, hc, hu =>
      simp only [List.getElem?_cons_succ, List.getElem?_cons_zero, Option.some.injEq] at hc hu
      subst hc; subst hu
      exact r1
    | j + 2, hc, hu => simp at hc
  · cases e with
    | returned u =>
      obtain ⟨rfl, hb⟩ := he
      have hlt : ∀ x ∈ p0 ++ p1, x.block < W.heap.size := fun x hx => hW'.lt x (by simpa using hx)
      refine ⟨_, rfl, post_below (pa := p0 ++ p1) (pv := []) hW' (fun _ _ _ => trodAll_mk1 (shut_bool Try.underlying4 _)) (fun sp hsp => ?_) (fun _ _ => rfl) (by simp) hb (ok_one (by kernel_rfl) rfl (okWide_bool_mk Try.underlying4 _))⟩
      have t0 : DataW.Trod enc Try.prog W' 0 sp true 22 v0 d0 p0 := WideElems.Trod_stays laidOut (by kernel_rfl) (by decide +kernel) h0 (fun x hx => hb.same (hlt x (List.mem_append_left _ hx))) (fun x hx => hsp x (List.mem_append_left _ hx))
      have t1 : DataW.Trod enc Try.prog W' 0 sp true 3 v1 d1 p1 := WideElems.Trod_stays laidOut (by kernel_rfl) (by decide +kernel) h1 (fun x hx => hb.same (hlt x (List.mem_append_right _ hx))) (fun x hx => hsp x (List.mem_append_right _ hx))
      exact trodAll_mk2 t0 t1
    | panicked => exact he.elim
    | outgrown => exact he.elim

theorem postSteps_holds : Rows.PostStepsSaid :=
  OpenClaim.holds_of_wide 3 Try.f3 rfl rfl rfl rfl rfl rfl rfl ⟨rfl, rfl, rfl, rfl, rfl⟩ rfl rfl rfl rfl rfl (by kernel_rfl) Try.func3 (by kernel_rfl)
    (of_decide_eq_true (by kernel_rfl)) (by unfold Func.isWrapper; first | (rw [if_pos (by decide +kernel)]; kernel_rfl) | (rw [if_neg (by decide +kernel)]; exact ⟨rfl, rfl⟩))
    (fun os started H enc _ => postSteps_lifted os started H enc)
#print axioms postSteps_holds
end Go.Proofs.Ytgppmcpbphgnnaa
