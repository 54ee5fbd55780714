/- The examples of the chapters 15: each one run. -/
import Derived.Test.YtckgelanagoenaaGreatDoorKPl
namespace Go.Proofs.YtckgelanagoenaaGreatDoor
open Go.Abs
set_option maxRecDepth 100000
theorem run15 : isT (call pl14 1000000 259 [] σ0) = true := by kernel_rfl
end Go.Proofs.YtckgelanagoenaaGreatDoor
