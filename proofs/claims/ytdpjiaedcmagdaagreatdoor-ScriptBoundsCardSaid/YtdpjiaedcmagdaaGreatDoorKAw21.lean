/- The examples of the chapters 21: each one run. -/
import Derived.Test.YtdpjiaedcmagdaaGreatDoorKPl
namespace Go.Proofs.YtdpjiaedcmagdaaGreatDoor
open Go.Abs
set_option maxRecDepth 100000
theorem run21 : isT (call pl20 1000000 324 [] σ0) = true := by kernel_rfl
end Go.Proofs.YtdpjiaedcmagdaaGreatDoor
