/- PostCopies: whatever its arguments, the law's function answers true, and leaves them as they were. -/
import Derived.Test.YtgppmcpbphgnnaaPR
import Derived.Test.YtgppmcpbphgnnaaP16
import Derived.ChangeSame
import Derived.JoinedOf
import Derived.JoinedAt
set_option linter.unusedSimpArgs false
set_option linter.unusedVariables false
set_option linter.unusedSectionVars false
namespace Go.Proofs.Ytgppmcpbphgnnaa
open Go Go.Vx
open Go.ChangeShapes Go.WideShapes Go.ChangeAt Go.WideElems Go.RowKit
set_option maxRecDepth 100000

theorem postCopies_lifted (os : Os) (started : os.Started) (H : Type) (enc : TypeId × Value → H) :
    ReturnsInHanded {} Try.checked os 6 .any (Rows.postCopiesSpec.pre6 enc Try.prog Try.f6 Rows.postCopiesRow.domain false) (Rows.postCopiesSpec.post enc Try.prog Try.f6 Rows.postCopiesRow.apart Rows.postCopiesRow.fresh Rows.postCopiesRow.handsOn Rows.postCopiesRow.again) := by
  refine returnsInHanded_of_change (C := Try.checked) own started (by kernel_rfl) Try.func6
    (ChangeSpec.witness6 (enc := enc) (C := Try.checked) false ⟨#[], #[.slice none 0 0, .slice none 0 0, .int .i64 0], []⟩ 8 (by kernel_rfl) (by kernel_rfl) (by kernel_rfl) (by kernel_rfl)) ?_
  intro W base args ds gs before hval0 hW _ _
  have hval : ∀ (j : Nat) t v, Try.f6.params[j]? = some t → args[j]? = some v → Value.okWide Try.prog W .any base t v := hval0
  have hW' := hW
  obtain ⟨p, q, hA0, hV, rfl, hfz, hnd⟩ := hW
  have hA : DataW.TrodAll enc Try.prog W 0 (fun _ => true) true Try.f6.params.toList args.toList ds p := hA0
  rw [Try.params6] at hA hval
  obtain ⟨v0, v1, v2, d0, d1, d2, p0, p1, p2, rfl, rfl, rfl, h0, h1, h2⟩ := trodAll_three hA
  obtain ⟨rfl, rfl⟩ := trodVars_none hV
  obtain ⟨K0, ss0, r0, k0, m0⟩ := arg_steps (hval 0 22 v0 rfl rfl) h0
  obtain ⟨K1, ss1, r1, k1, m1⟩ := arg_steps (hval 1 22 v1 rfl rfl) h1
  obtain ⟨n2, r2⟩ := arg_int (hval 2 3 v2 rfl rfl)
  clear hA0 hval0
  simp only [List.append_nil] at hW'
  refine (top_sound cfg_ok (postCopies_ev n2 k0 k1 m0 m1) (glob_ok W) (us := [v0, v1, v2]) rfl (fun j c u hc hu => ?_)).mono fun e W' he => ?_
  · match j, hc, hu with
    | 0, hc, hu =>
      simp only [List.getElem?_cons_succ, List.getElem?_cons_zero, Option.some.injEq] at hc hu
      subst hc; subst hu
      exact r0
    | 1, hc, hu =>
      simp only [List.getElem?_cons_succ, List.getElem?_cons_zero, Option.some.injEq] at hc hu
      subst hc; subst hu
      exact r1
    | 2, hc, hu =>
      simp only [List.getElem?_cons_succ, List.getElem?_cons_zero, Option.some.injEq] at hc hu
      subst hc; subst hu
      exact r2
    | j + 3, hc, hu => simp at hc
  · cases e with
    | returned u =>
      obtain ⟨rfl, hb⟩ := he
      have hlt : ∀ x ∈ p0 ++ p1 ++ p2, x.block < W.heap.size := fun x hx => hW'.lt x (by simpa using hx)
      refine ⟨_, rfl, post_below (pa := p0 ++ p1 ++ p2) (pv := []) hW' (fun _ _ _ => trodAll_mk1 (shut_bool Try.underlying4 _)) (fun sp hsp => ?_) (fun _ _ => rfl) (by simp) hb (ok_one (by kernel_rfl) rfl (okWide_bool_mk Try.underlying4 _))⟩
      have t0 : DataW.Trod enc Try.prog W' 0 sp true 22 v0 d0 p0 := WideElems.Trod_stays laidOut (by kernel_rfl) (by decide +kernel) h0 (fun x hx => hb.same (hlt x (List.mem_append_left _ (List.mem_append_left _ hx)))) (fun x hx => hsp x (List.mem_append_left _ (List.mem_append_left _ hx)))
      have t1 : DataW.Trod enc Try.prog W' 0 sp true 22 v1 d1 p1 := WideElems.Trod_stays laidOut (by kernel_rfl) (by decide +kernel) h1 (fun x hx => hb.same (hlt x (List.mem_append_left _ (List.mem_append_right _ hx)))) (fun x hx => hsp x (List.mem_append_left _ (List.mem_append_right _ hx)))
      have t2 : DataW.Trod enc Try.prog W' 0 sp true 3 v2 d2 p2 := WideElems.Trod_stays laidOut (by kernel_rfl) (by decide +kernel) h2 (fun x hx => hb.same (hlt x (List.mem_append_right _ hx))) (fun x hx => hsp x (List.mem_append_right _ hx))
      rw [List.append_assoc]
      exact trodAll_mk3 t0 t1 t2
    | panicked => exact he.elim
    | outgrown => exact he.elim

theorem postCopies_holds : Rows.PostCopiesSaid :=
  OpenClaim.holds_of_wide 6 Try.f6 rfl rfl rfl rfl rfl rfl rfl ⟨rfl, rfl, rfl, rfl, rfl⟩ rfl rfl rfl rfl rfl (by kernel_rfl) Try.func6 (by kernel_rfl)
    (of_decide_eq_true (by kernel_rfl)) (by unfold Func.isWrapper; first | (rw [if_pos (by decide +kernel)]; kernel_rfl) | (rw [if_neg (by decide +kernel)]; exact ⟨rfl, rfl⟩))
    (fun os started H enc _ => postCopies_lifted os started H enc)
#print axioms postCopies_holds
end Go.Proofs.Ytgppmcpbphgnnaa
