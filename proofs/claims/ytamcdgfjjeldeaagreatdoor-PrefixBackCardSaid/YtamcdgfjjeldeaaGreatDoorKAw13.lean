/- The examples of the chapters 13: each one run. -/
import Derived.Test.YtamcdgfjjeldeaaGreatDoorKPl
namespace Go.Proofs.YtamcdgfjjeldeaaGreatDoor
open Go.Abs
set_option maxRecDepth 100000
theorem run13 : isT (call pl12 1000000 15 [] σ0) = true := by kernel_rfl
end Go.Proofs.YtamcdgfjjeldeaaGreatDoor
