/- Pieces of the checks of great trees. -/
import Derived.Test.YtbcpbplkgknnmaaGreatDoorKWW
namespace Go.Proofs.YtbcpbplkgknnmaaGreatDoor
open Go Go.Abs
set_option maxRecDepth 100000
set_option linter.unusedVariables false
namespace W
theorem w1_TFFFFFTTT : w1 [true, false, false, false, false, false, true, true, true] = true := by kernel_rfl
theorem w1_TFFFTF : w1 [true, false, false, false, true, false] = true := by kernel_rfl
theorem w1_TFFFFFTTF : w1 [true, false, false, false, false, false, true, true, false] = true := by kernel_rfl
theorem w1_TT : w1 [true, true] = true := by kernel_rfl
end W
end Go.Proofs.YtbcpbplkgknnmaaGreatDoor
