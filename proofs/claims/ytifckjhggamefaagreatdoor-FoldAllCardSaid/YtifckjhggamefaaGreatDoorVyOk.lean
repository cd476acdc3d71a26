/- The abstract interpreter's table holds: by the kernel. Written by a program (vxok.py). -/
import Derived.Test.YtifckjhggamefaaGreatDoorVyCfg
import Derived.Test.YtifckjhggamefaaGreatDoorQc
import Derived.Test.YtifckjhggamefaaGreatDoorUi
import Derived.Test.YtifckjhggamefaaGreatDoorUf
import Derived.KernelRfl
set_option linter.unusedSimpArgs false
set_option linter.unusedVariables false
set_option linter.unusedSectionVars false
namespace Go.Proofs.YtifckjhggamefaaGreatDoor
open Go Go.Vx
set_option maxRecDepth 100000
theorem ti_ok : ∀ t i,tiT t = some i -> TiOk Tryz.prog t i := by
 intro t i h
 unfold tiT at h
 split at h
 all_goals first
  | (obtain rfl := sij h; exact tiOk_mk (by kernel_rfl) (by kernel_rfl) (by kernel_rfl) (by kernel_rfl) (by kernel_rfl) (kind_struct (by kernel_rfl) (by kernel_rfl)))
  | (obtain rfl := sij h; exact tiOk_mk (by kernel_rfl) (by kernel_rfl) (by kernel_rfl) (by kernel_rfl) (by kernel_rfl) (kind_other (by kernel_rfl)))
  | (obtain rfl := sij h; exact tiOk_mk (by kernel_rfl) (by kernel_rfl) (by kernel_rfl) (by kernel_rfl) (by kernel_rfl) ((by show Tryz.prog.underlying _ = some _; kernel_rfl)))
  | cases h
theorem fn_ok : ∀ f fn, fnT f = some fn -> Tryz.prog.funcs[f]? = some fn /\ (fn.name == "runtime.NumGoroutine") = false /\ fn.body.isSome = true := by
 intro f fn h
 unfold fnT at h
 split at h
 all_goals first
  | (obtain rfl := sij h; exact ⟨by kernel_rfl,by kernel_rfl,by kernel_rfl⟩)
  | cases h
theorem code_of {cx : Cx} {fn : Func} {c : Code} (h : (match fn.body with | some c => codeOk cx c && noDup (loopIds c) | none => true) = true) (hb : fn.body = some c) : codeOk cx c = true /\ noDup (loopIds c) = true := by
 rw [hb] at h; simpa only [Bool.and_eq_true] using h
theorem code_ok : ∀ f fn c,fnT f = some fn -> fn.body = some c -> codeOk (cxT f) c = true /\ noDup (loopIds c) = true := by
 intro f fn c h hb
 unfold fnT at h
 split at h
 all_goals first
  | (obtain rfl := sij h; exact code_of (by kernel_rfl) hb)
  | cases h
theorem mixed : Tryz.prog.follows .mixedOrders = true := by kernel_rfl
theorem cmo92 : Tryz.prog.underlying 92 = some (.struct (Tryz.prog.fieldsOf 92)) /\ Tryz.prog.stoodInHeld 92 = false /\ Tryz.prog.eqGuardType Tryz.prog.depth 92 = false /\ (Tryz.prog.fieldsOf 92).toList.all (fun f => f.name != "_") = true := ⟨by kernel_rfl, by kernel_rfl, by kernel_rfl, by kernel_rfl⟩
theorem cmo93 : Tryz.prog.underlying 93 = some (.struct (Tryz.prog.fieldsOf 93)) /\ Tryz.prog.stoodInHeld 93 = false /\ Tryz.prog.eqGuardType Tryz.prog.depth 93 = false /\ (Tryz.prog.fieldsOf 93).toList.all (fun f => f.name != "_") = true := ⟨by kernel_rfl, by kernel_rfl, by kernel_rfl, by kernel_rfl⟩
theorem cmo94 : Tryz.prog.underlying 94 = some (.struct (Tryz.prog.fieldsOf 94)) /\ Tryz.prog.stoodInHeld 94 = false /\ Tryz.prog.eqGuardType Tryz.prog.depth 94 = false /\ (Tryz.prog.fieldsOf 94).toList.all (fun f => f.name != "_") = true := ⟨by kernel_rfl, by kernel_rfl, by kernel_rfl, by kernel_rfl⟩
theorem cmp_ok : ∀ t, cmpT t = true -> Tryz.prog.underlying t = some (.struct (Tryz.prog.fieldsOf t)) /\ Tryz.prog.stoodInHeld t = false /\ Tryz.prog.eqGuardType Tryz.prog.depth t = false /\ (Tryz.prog.fieldsOf t).toList.all (fun f => f.name != "_") = true := by
 intro t h
 unfold cmpT at h
 simp only [Bool.or_eq_true,beq_iff_eq] at h
 rcases h with (rfl | rfl) | rfl
 ·exact cmo92
 ·exact cmo93
 ·exact cmo94
theorem hook_ok : ∀ f h,hookT f = some h -> HookFn Tryz.prog f h := by
 intro f h hh
 unfold hookT at hh
 split at hh
 ·rename_i e; subst e; obtain rfl := sij hh; exact sort_ok lay189 (by kernel_rfl) (by kernel_rfl)
 split at hh
 ·rename_i e; subst e; obtain rfl := sij hh; exact del_ok lay10 lay10.v3
 split at hh
 ·rename_i e; subst e; obtain rfl := sij hh; exact compact_ok lay20 (by kernel_rfl) (by kernel_rfl)
 ·cases hh
theorem byte_ok : ∀ j,tiT 5 = some j -> j.size = 1 /\ Tryz.prog.cellsOf 5 = 1 := by
 intro j h; obtain rfl := sij ((show tiT 5 = some _ from rfl).symm.trans h); exact ⟨rfl,by kernel_rfl⟩
theorem cfg_ok : CfgOk Tryz.prog cfg := ⟨fn_ok,ti_ok,mixed,code_ok,cmp_ok,hook_ok,byte_ok⟩
end Go.Proofs.YtifckjhggamefaaGreatDoor
