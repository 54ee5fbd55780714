/- The examples of the chapters 22: each one run. -/
import Derived.Test.YtbcpbplkgknnmaaGreatDoorKPl
namespace Go.Proofs.YtbcpbplkgknnmaaGreatDoor
open Go.Abs
set_option maxRecDepth 100000
theorem run22 : isT (call pl21 1000000 314 [] σ0) = true := by kernel_rfl
end Go.Proofs.YtbcpbplkgknnmaaGreatDoor
