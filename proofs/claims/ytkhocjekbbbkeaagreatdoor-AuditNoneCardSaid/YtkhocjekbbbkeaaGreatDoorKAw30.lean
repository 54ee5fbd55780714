/- The examples of the chapters 30: each one run. -/
import Derived.Test.YtkhocjekbbbkeaaGreatDoorKPl
namespace Go.Proofs.YtkhocjekbbbkeaaGreatDoor
open Go.Abs
set_option maxRecDepth 100000
theorem run30 : isT (call pl29 1000000 5 [] σ0) = true := by kernel_rfl
end Go.Proofs.YtkhocjekbbbkeaaGreatDoor
