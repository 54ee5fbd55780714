/- The examples of the chapters 13, 14, 15: each one run. -/
import Derived.Test.YtdpjiaedcmagdaaGreatDoorKPl
namespace Go.Proofs.YtdpjiaedcmagdaaGreatDoor
open Go.Abs
set_option maxRecDepth 100000
theorem run13 : isT (call pl12 1000000 345 [] σ0) = true := by kernel_rfl
theorem run14 : isT (call pl13 1000000 342 [] σ0) = true := by kernel_rfl
theorem run15 : isT (call pl14 1000000 340 [] σ0) = true := by kernel_rfl
end Go.Proofs.YtdpjiaedcmagdaaGreatDoor
