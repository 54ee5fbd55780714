/- The examples of the chapters 18: each one run. -/
import Derived.Test.YtdpjiaedcmagdaaGreatDoorKPl
namespace Go.Proofs.YtdpjiaedcmagdaaGreatDoor
open Go.Abs
set_option maxRecDepth 100000
theorem run18 : isT (call plN 1000000 332 [] σ0) = true := by kernel_rfl
end Go.Proofs.YtdpjiaedcmagdaaGreatDoor
