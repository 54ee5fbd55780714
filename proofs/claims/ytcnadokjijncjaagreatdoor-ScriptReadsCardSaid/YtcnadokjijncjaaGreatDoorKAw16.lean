/- The examples of the chapters 16, 17: each one run. -/
import Derived.Test.YtcnadokjijncjaaGreatDoorKPl
namespace Go.Proofs.YtcnadokjijncjaaGreatDoor
open Go.Abs
set_option maxRecDepth 100000
theorem run16 : isT (call pl15 1000000 327 [] σ0) = true := by kernel_rfl
theorem run17 : isT (call pl16 1000000 323 [] σ0) = true := by kernel_rfl
end Go.Proofs.YtcnadokjijncjaaGreatDoor
