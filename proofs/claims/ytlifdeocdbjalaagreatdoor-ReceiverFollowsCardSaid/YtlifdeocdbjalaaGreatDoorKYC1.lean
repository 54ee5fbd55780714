/- Pieces of the checks of great trees. -/
import Derived.Test.YtlifdeocdbjalaaGreatDoorKYW
namespace Go.Proofs.YtlifdeocdbjalaaGreatDoor
open Go Go.Abs
set_option maxRecDepth 100000
set_option linter.unusedVariables false
namespace Y
theorem w71_TTFFFFFFFFFFFFF : w71 [true, true, false, false, false, false, false, false, false, false, false, false, false, false, false] = true := by kernel_rfl
theorem w1_TFFFTTT : w1 [true, false, false, false, true, true, true] = true := by kernel_rfl
theorem w1_TFFTTF : w1 [true, false, false, true, true, false] = true := by kernel_rfl
theorem w1_TFFFTF : w1 [true, false, false, false, true, false] = true := by kernel_rfl
theorem w72_TFFT : w72 [true, false, false, true] = true := by kernel_rfl
theorem w71_TTFT : w71 [true, true, false, true] = true := by kernel_rfl
theorem w71_TTFFFFFT : w71 [true, true, false, false, false, false, false, true] = true := by kernel_rfl
theorem w71_TTFFFFFFFFFT : w71 [true, true, false, false, false, false, false, false, false, false, false, true] = true := by kernel_rfl
theorem w72_TT : w72 [true, true] = true := by kernel_rfl
theorem w72_F : w72 [false] = true := by kernel_rfl
theorem w1_TFT : w1 [true, false, true] = true := by kernel_rfl
end Y
end Go.Proofs.YtlifdeocdbjalaaGreatDoor
