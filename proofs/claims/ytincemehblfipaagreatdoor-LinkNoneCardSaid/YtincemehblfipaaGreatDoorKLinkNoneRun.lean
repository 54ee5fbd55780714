/- The evaluator's run of the law LinkNone. -/
import Derived.Test.YtincemehblfipaaGreatDoorKPl
namespace Go.Proofs.YtincemehblfipaaGreatDoor
open Go.Abs
set_option maxRecDepth 100000
namespace LinkNone
theorem run : isT (call pl22 1000000 4 [] σ0) = true := by kernel_rfl
end LinkNone
end Go.Proofs.YtincemehblfipaaGreatDoor
