/- The examples of the chapters 20: each one run. -/
import Derived.Test.YtbcpbplkgknnmaaGreatDoorKPl
namespace Go.Proofs.YtbcpbplkgknnmaaGreatDoor
open Go.Abs
set_option maxRecDepth 100000
theorem run20 : isT (call pl19 1000000 200 [] σ0) = true := by kernel_rfl
end Go.Proofs.YtbcpbplkgknnmaaGreatDoor
