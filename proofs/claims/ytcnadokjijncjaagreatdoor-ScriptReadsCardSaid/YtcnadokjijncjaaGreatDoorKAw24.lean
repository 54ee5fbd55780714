/- The examples of the chapters 24: each one run. -/
import Derived.Test.YtcnadokjijncjaaGreatDoorKPl
namespace Go.Proofs.YtcnadokjijncjaaGreatDoor
open Go.Abs
set_option maxRecDepth 100000
theorem run24 : isT (call pl23 1000000 205 [] σ0) = true := by kernel_rfl
end Go.Proofs.YtcnadokjijncjaaGreatDoor
