/- The examples of the chapters 26: each one run. -/
import Derived.Test.YtdpjiaedcmagdaaGreatDoorKPl
namespace Go.Proofs.YtdpjiaedcmagdaaGreatDoor
open Go.Abs
set_option maxRecDepth 100000
theorem run26 : isT (call pl25 1000000 83 [] σ0) = true := by kernel_rfl
end Go.Proofs.YtdpjiaedcmagdaaGreatDoor
