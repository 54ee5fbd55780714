/- The examples of the chapters 14: each one run. -/
import Derived.Test.YtckgelanagoenaaGreatDoorKPl
namespace Go.Proofs.YtckgelanagoenaaGreatDoor
open Go.Abs
set_option maxRecDepth 100000
theorem run14 : isT (call pl13 1000000 267 [] σ0) = true := by kernel_rfl
end Go.Proofs.YtckgelanagoenaaGreatDoor
