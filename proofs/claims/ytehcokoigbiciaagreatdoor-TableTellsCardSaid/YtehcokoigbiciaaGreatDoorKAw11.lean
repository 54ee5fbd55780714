/- The examples of the chapters 11, 12: each one run. -/
import Derived.Test.YtehcokoigbiciaaGreatDoorKPl
namespace Go.Proofs.YtehcokoigbiciaaGreatDoor
open Go.Abs
set_option maxRecDepth 100000
theorem run11 : isT (call pl10 1000000 81 [] σ0) = true := by kernel_rfl
theorem run12 : isT (call pl11 1000000 32 [] σ0) = true := by kernel_rfl
end Go.Proofs.YtehcokoigbiciaaGreatDoor
