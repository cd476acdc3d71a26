/- Rounds of the blocks' functions: the conversion, the texts' outsides. No condition. -/
import Derived.Test.YtifckjhggamefaaGreatDoorBt
import Derived.Test.YtifckjhggamefaaGreatDoorQa
set_option linter.unusedSimpArgs false
set_option linter.unusedVariables false
set_option linter.unusedSectionVars false
namespace Go.Proofs.YtifckjhggamefaaGreatDoor
open Go Go.Vx
set_option maxHeartbeats 4000000
set_option maxRecDepth 10000
section
variable {k a : Int}
def mkS (k : Nat) : List (List D) -> PV
 | [] => .dat .nil
 | xs => .own true k xs
def mkD (k : Nat) : List (List D) -> D
 | [] => .nil
 | xs => .sl k xs
theorem mkD_one (k : Nat) (xs : List (List D)) : (mkD k xs).oneC = true := by cases xs <;> rfl
end
end Go.Proofs.YtifckjhggamefaaGreatDoor
