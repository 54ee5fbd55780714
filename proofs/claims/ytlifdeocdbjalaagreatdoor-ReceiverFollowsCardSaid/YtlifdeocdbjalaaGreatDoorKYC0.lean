/- Pieces of the checks of great trees. -/
import Derived.Test.YtlifdeocdbjalaaGreatDoorKYW
namespace Go.Proofs.YtlifdeocdbjalaaGreatDoor
open Go Go.Abs
set_option maxRecDepth 100000
set_option linter.unusedVariables false
namespace Y
theorem w72_TFFFFF : w72 [true, false, false, false, false, false] = true := by kernel_rfl
theorem w1_TFFFTTF : w1 [true, false, false, false, true, true, false] = true := by kernel_rfl
theorem w1_TFFTFF : w1 [true, false, false, true, false, false] = true := by kernel_rfl
theorem w1_TFFFFF : w1 [true, false, false, false, false, false] = true := by kernel_rfl
theorem w72_TFFFT : w72 [true, false, false, false, true] = true := by kernel_rfl
theorem w71_TTFFT : w71 [true, true, false, false, true] = true := by kernel_rfl
theorem w71_TTFFFFFFT : w71 [true, true, false, false, false, false, false, false, true] = true := by kernel_rfl
theorem w71_TTFFFFFFFFFFT : w71 [true, true, false, false, false, false, false, false, false, false, false, false, true] = true := by kernel_rfl
theorem w72_TFT : w72 [true, false, true] = true := by kernel_rfl
theorem w1_TT : w1 [true, true] = true := by kernel_rfl
end Y
end Go.Proofs.YtlifdeocdbjalaaGreatDoor
