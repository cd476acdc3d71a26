/- What the law's 'large' answers: the whole. No condition. -/
import Derived.Test.YtifckjhggamefaaGreatDoorHo
set_option linter.unusedSimpArgs false
set_option linter.unusedVariables false
set_option linter.unusedSectionVars false
namespace Go.Proofs.YtifckjhggamefaaGreatDoor
open Go Go.Vx
set_option maxHeartbeats 4000000
set_option maxRecDepth 10000
section
end
section
variable {bx : List Box} {nr fr : List (List D)} {N F : D} {r1 r2 : Bool × Int}
theorem large_big (hN : IsS 5 nr N) (hF : IsS 6 fr F) (hb : (decide ((nr.length : Int) > 30) || decide ((fr.length : Int) > 50)) = true) :
  Jq (.call 7 [Nq N F] bx) = Rq (B true) := by
 obtain ⟨w,h1,h2,h3⟩ := hN
 obtain ⟨w,g1,g2,g3⟩ := hF
 cases c1 : decide ((nr.length : Int) > 30)
 ·rw [c1,Bool.false_or] at hb
  simp (maxSteps := 2000000) only [go_sem,seval,h1,h3,g1,g3,c1,hb]
 ·simp (maxSteps := 2000000) only [go_sem,seval,h1,h3,g1,g3,c1]
theorem large_f (hN : IsS 5 nr N) (hF : IsS 6 fr F) (c1 : decide ((nr.length : Int) > 30) = false) (c2 : decide ((fr.length : Int) > 50) = false)
  (hl1 : ev cfg (.loop 7 5 (qs bx (sh7_5 (P0 bx) (P1 bx) (.dat N) (I nr.length) (I 0)) [Nb N F,[I 2000]])) =
   some (if r1.1 = true then .loop .ret (qs bx (se7_5 (P0 bx) (B true) (P1 bx)) [Nb N F,[I r1.2]]) else .loop (.exit 0) (qs bx (se7_5 (P0 bx) .dead (P1 bx)) [Nb N F,[I r1.2]])))
  (hl2 : r1.1 = false -> ev cfg (.loop 7 11 (qs bx (sh7_11 (P1 bx) (.dat F) (I fr.length) (I 0)) [Nb N F,[I r1.2]])) =
   some (if r2.1 = true then .loop .ret (qs bx (se7_11 (B true)) [Nb N F,[I r2.2]]) else .loop (.exit 2) (qs bx (se7_11 .dead) [Nb N F,[I r2.2]]))) :
  Jq (.call 7 [Nq N F] bx) = Rq (B (r1.1 || r2.1)) := by
 obtain ⟨w,h1,h2,h3⟩ := hN
 obtain ⟨w,g1,g2,g3⟩ := hF
 cases e1 : r1.1
 ·have hl2' := hl2 e1
  rw [e1] at hl1
  cases e2 : r2.1 <;> rw [e2] at hl2' <;> simp only [if_true,if_false,Bool.false_eq_true] at hl1 hl2' <;> simp (maxSteps := 2000000) only [go_sem,seval,h1,h3,g1,g3,c1,c2,hl1,hl2']
 ·rw [e1] at hl1
  simp only [if_true] at hl1
  simp (maxSteps := 2000000) only [go_sem,seval,h1,h3,g1,g3,c1,c2,hl1]
end
end Go.Proofs.YtifckjhggamefaaGreatDoor
