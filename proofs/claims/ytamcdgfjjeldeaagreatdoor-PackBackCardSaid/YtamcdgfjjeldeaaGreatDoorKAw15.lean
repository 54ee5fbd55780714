/- The examples of the chapters 15: each one run. -/
import Derived.Test.YtamcdgfjjeldeaaGreatDoorKPl
namespace Go.Proofs.YtamcdgfjjeldeaaGreatDoor
open Go.Abs
set_option maxRecDepth 100000
theorem run15 : isT (call pl14 1000000 49 [] σ0) = true := by kernel_rfl
end Go.Proofs.YtamcdgfjjeldeaaGreatDoor
