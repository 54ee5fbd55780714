/- Pieces of the checks of great trees. -/
import Derived.Test.YtbcpbplkgknnmaaGreatDoorKWW
namespace Go.Proofs.YtbcpbplkgknnmaaGreatDoor
open Go Go.Abs
set_option maxRecDepth 100000
set_option linter.unusedVariables false
namespace W
theorem w1_TFFTT : w1 [true, false, false, true, true] = true := by kernel_rfl
theorem w1_TFFFFFFTT : w1 [true, false, false, false, false, false, false, true, true] = true := by kernel_rfl
theorem w1_TFFFFFFTF : w1 [true, false, false, false, false, false, false, true, false] = true := by kernel_rfl
theorem w1_TFT : w1 [true, false, true] = true := by kernel_rfl
end W
end Go.Proofs.YtbcpbplkgknnmaaGreatDoor
