/- The examples of the chapters 23: each one run. -/
import Derived.Test.YtcnadokjijncjaaGreatDoorKPl
namespace Go.Proofs.YtcnadokjijncjaaGreatDoor
open Go.Abs
set_option maxRecDepth 100000
theorem run23 : isT (call pl22 1000000 269 [] σ0) = true := by kernel_rfl
end Go.Proofs.YtcnadokjijncjaaGreatDoor
