/- Pieces of the checks of great trees. -/
import Derived.Test.YtbcpbplkgknnmaaGreatDoorKXW
namespace Go.Proofs.YtbcpbplkgknnmaaGreatDoor
open Go Go.Abs
set_option maxRecDepth 100000
set_option linter.unusedVariables false
namespace X
theorem w1_TFFTFT : w1 [true, false, false, true, false, true] = true := by kernel_rfl
theorem w1_TFFFFT : w1 [true, false, false, false, false, true] = true := by kernel_rfl
theorem w1_TFT : w1 [true, false, true] = true := by kernel_rfl
end X
end Go.Proofs.YtbcpbplkgknnmaaGreatDoor
