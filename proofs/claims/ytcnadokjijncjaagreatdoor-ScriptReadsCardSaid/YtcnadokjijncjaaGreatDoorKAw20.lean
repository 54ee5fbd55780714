/- The examples of the chapters 20: each one run. -/
import Derived.Test.YtcnadokjijncjaaGreatDoorKPl
namespace Go.Proofs.YtcnadokjijncjaaGreatDoor
open Go.Abs
set_option maxRecDepth 100000
theorem run20 : isT (call pl19 1000000 315 [] σ0) = true := by kernel_rfl
end Go.Proofs.YtcnadokjijncjaaGreatDoor
