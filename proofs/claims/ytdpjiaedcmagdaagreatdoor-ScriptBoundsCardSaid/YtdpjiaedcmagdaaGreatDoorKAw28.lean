/- The examples of the chapters 28: each one run. -/
import Derived.Test.YtdpjiaedcmagdaaGreatDoorKPl
namespace Go.Proofs.YtdpjiaedcmagdaaGreatDoor
open Go.Abs
set_option maxRecDepth 100000
theorem run28 : isT (call pl27 1000000 7 [] σ0) = true := by kernel_rfl
end Go.Proofs.YtdpjiaedcmagdaaGreatDoor
