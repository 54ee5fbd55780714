/- The examples of the chapters 16, 17: each one run. -/
import Derived.Test.YtdpjiaedcmagdaaGreatDoorKPl
namespace Go.Proofs.YtdpjiaedcmagdaaGreatDoor
open Go.Abs
set_option maxRecDepth 100000
theorem run16 : isT (call pl15 1000000 338 [] σ0) = true := by kernel_rfl
theorem run17 : isT (call pl16 1000000 334 [] σ0) = true := by kernel_rfl
end Go.Proofs.YtdpjiaedcmagdaaGreatDoor
