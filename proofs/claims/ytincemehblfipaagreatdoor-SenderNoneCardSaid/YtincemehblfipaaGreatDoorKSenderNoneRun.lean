/- The evaluator's run of the law SenderNone. -/
import Derived.Test.YtincemehblfipaaGreatDoorKPl
namespace Go.Proofs.YtincemehblfipaaGreatDoor
open Go.Abs
set_option maxRecDepth 100000
namespace SenderNone
theorem run : isT (call pl24 1000000 5 [] σ0) = true := by kernel_rfl
end SenderNone
end Go.Proofs.YtincemehblfipaaGreatDoor
