/- The examples of the chapters 29: each one run. -/
import Derived.Test.YtkhocjekbbbkeaaGreatDoorKPl
namespace Go.Proofs.YtkhocjekbbbkeaaGreatDoor
open Go.Abs
set_option maxRecDepth 100000
theorem run29 : isT (call pl28 1000000 23 [] σ0) = true := by kernel_rfl
end Go.Proofs.YtkhocjekbbbkeaaGreatDoor
