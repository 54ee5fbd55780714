/- The evaluator's run of the law QueueNone. -/
import Derived.Test.YtincemehblfipaaGreatDoorKPl
namespace Go.Proofs.YtincemehblfipaaGreatDoor
open Go.Abs
set_option maxRecDepth 100000
namespace QueueNone
theorem run : isT (call pl21 1000000 3 [] σ0) = true := by kernel_rfl
end QueueNone
end Go.Proofs.YtincemehblfipaaGreatDoor
