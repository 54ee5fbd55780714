/- Pieces of the checks of great trees. -/
import Derived.Test.YtlifdeocdbjalaaGreatDoorKYW
namespace Go.Proofs.YtlifdeocdbjalaaGreatDoor
open Go Go.Abs
set_option maxRecDepth 100000
set_option linter.unusedVariables false
namespace Y
theorem w1_TFFTTTT : w1 [true, false, false, true, true, true, true] = true := by kernel_rfl
theorem w1_TFFTFTT : w1 [true, false, false, true, false, true, true] = true := by kernel_rfl
theorem w1_TFFFFTT : w1 [true, false, false, false, false, true, true] = true := by kernel_rfl
theorem w72_TFFFFT : w72 [true, false, false, false, false, true] = true := by kernel_rfl
theorem w71_TTFFFT : w71 [true, true, false, false, false, true] = true := by kernel_rfl
theorem w71_TTFFFFFFFT : w71 [true, true, false, false, false, false, false, false, false, true] = true := by kernel_rfl
theorem w71_TTFFFFFFFFFFFT : w71 [true, true, false, false, false, false, false, false, false, false, false, false, false, true] = true := by kernel_rfl
theorem w71_TF : w71 [true, false] = true := by kernel_rfl
theorem w1_F : w1 [false] = true := by kernel_rfl
end Y
end Go.Proofs.YtlifdeocdbjalaaGreatDoor
