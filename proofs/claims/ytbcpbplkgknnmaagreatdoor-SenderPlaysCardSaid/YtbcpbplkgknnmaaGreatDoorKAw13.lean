/- The examples of the chapters 13, 14, 15: each one run. -/
import Derived.Test.YtbcpbplkgknnmaaGreatDoorKPl
namespace Go.Proofs.YtbcpbplkgknnmaaGreatDoor
open Go.Abs
set_option maxRecDepth 100000
theorem run13 : isT (call pl12 1000000 11 [] σ0) = true := by kernel_rfl
theorem run14 : isT (call pl13 1000000 360 [] σ0) = true := by kernel_rfl
theorem run15 : isT (call pl14 1000000 346 [] σ0) = true := by kernel_rfl
end Go.Proofs.YtbcpbplkgknnmaaGreatDoor
