/- The evaluator's run of the law ReceiverNone. -/
import Derived.Test.YtincemehblfipaaGreatDoorKPl
namespace Go.Proofs.YtincemehblfipaaGreatDoor
open Go.Abs
set_option maxRecDepth 100000
namespace ReceiverNone
theorem run : isT (call pl25 1000000 6 [] σ0) = true := by kernel_rfl
end ReceiverNone
end Go.Proofs.YtincemehblfipaaGreatDoor
