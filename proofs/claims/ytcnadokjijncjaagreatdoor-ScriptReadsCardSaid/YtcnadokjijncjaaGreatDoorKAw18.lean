/- The examples of the chapters 18: each one run. -/
import Derived.Test.YtcnadokjijncjaaGreatDoorKPl
namespace Go.Proofs.YtcnadokjijncjaaGreatDoor
open Go.Abs
set_option maxRecDepth 100000
theorem run18 : isT (call plN 1000000 321 [] σ0) = true := by kernel_rfl
end Go.Proofs.YtcnadokjijncjaaGreatDoor
