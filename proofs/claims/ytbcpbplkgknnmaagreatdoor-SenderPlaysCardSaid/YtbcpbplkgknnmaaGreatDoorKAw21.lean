/- The examples of the chapters 21: each one run. -/
import Derived.Test.YtbcpbplkgknnmaaGreatDoorKPl
namespace Go.Proofs.YtbcpbplkgknnmaaGreatDoor
open Go.Abs
set_option maxRecDepth 100000
theorem run21 : isT (call pl20 1000000 50 [] σ0) = true := by kernel_rfl
end Go.Proofs.YtbcpbplkgknnmaaGreatDoor
