/- The examples of the chapters 20: each one run. -/
import Derived.Test.YtdpjiaedcmagdaaGreatDoorKPl
namespace Go.Proofs.YtdpjiaedcmagdaaGreatDoor
open Go.Abs
set_option maxRecDepth 100000
theorem run20 : isT (call pl19 1000000 326 [] σ0) = true := by kernel_rfl
end Go.Proofs.YtdpjiaedcmagdaaGreatDoor
