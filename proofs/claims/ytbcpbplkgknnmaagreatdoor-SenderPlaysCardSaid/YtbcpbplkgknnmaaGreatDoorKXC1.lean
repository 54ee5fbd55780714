/- Pieces of the checks of great trees. -/
import Derived.Test.YtbcpbplkgknnmaaGreatDoorKXW
namespace Go.Proofs.YtbcpbplkgknnmaaGreatDoor
open Go Go.Abs
set_option maxRecDepth 100000
set_option linter.unusedVariables false
namespace X
theorem w1_TFFFFF : w1 [true, false, false, false, false, false] = true := by kernel_rfl
end X
end Go.Proofs.YtbcpbplkgknnmaaGreatDoor
