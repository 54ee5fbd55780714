/- The examples of the chapters 13: each one run. -/
import Derived.Test.YtehcokoigbiciaaGreatDoorKPl
namespace Go.Proofs.YtehcokoigbiciaaGreatDoor
open Go.Abs
set_option maxRecDepth 100000
theorem run13 : isT (call pl12 1000000 4 [] σ0) = true := by kernel_rfl
end Go.Proofs.YtehcokoigbiciaaGreatDoor
