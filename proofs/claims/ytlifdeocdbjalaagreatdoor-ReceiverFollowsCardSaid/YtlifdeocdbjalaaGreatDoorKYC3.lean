/- Pieces of the checks of great trees. -/
import Derived.Test.YtlifdeocdbjalaaGreatDoorKYW
namespace Go.Proofs.YtlifdeocdbjalaaGreatDoor
open Go Go.Abs
set_option maxRecDepth 100000
set_option linter.unusedVariables false
namespace Y
theorem w1_TFFTTTF : w1 [true, false, false, true, true, true, false] = true := by kernel_rfl
theorem w1_TFFTFTF : w1 [true, false, false, true, false, true, false] = true := by kernel_rfl
theorem w1_TFFFFTF : w1 [true, false, false, false, false, true, false] = true := by kernel_rfl
theorem w71_TTT : w71 [true, true, true] = true := by kernel_rfl
theorem w71_TTFFFFT : w71 [true, true, false, false, false, false, true] = true := by kernel_rfl
theorem w71_TTFFFFFFFFT : w71 [true, true, false, false, false, false, false, false, false, false, true] = true := by kernel_rfl
theorem w71_TTFFFFFFFFFFFFT : w71 [true, true, false, false, false, false, false, false, false, false, false, false, false, false, true] = true := by kernel_rfl
theorem w71_F : w71 [false] = true := by kernel_rfl
end Y
end Go.Proofs.YtlifdeocdbjalaaGreatDoor
