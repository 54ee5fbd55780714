/- Pieces of the checks of great trees. -/
import Derived.Test.YtbcpbplkgknnmaaGreatDoorKXW
namespace Go.Proofs.YtbcpbplkgknnmaaGreatDoor
open Go Go.Abs
set_option maxRecDepth 100000
set_option linter.unusedVariables false
namespace X
theorem w1_TFFTT : w1 [true, false, false, true, true] = true := by kernel_rfl
theorem w1_TFFFT : w1 [true, false, false, false, true] = true := by kernel_rfl
theorem w1_TT : w1 [true, true] = true := by kernel_rfl
theorem w1_F : w1 [false] = true := by kernel_rfl
end X
end Go.Proofs.YtbcpbplkgknnmaaGreatDoor
