/- The evaluator's run of the law SessionNone. -/
import Derived.Test.YtincemehblfipaaGreatDoorKPl
namespace Go.Proofs.YtincemehblfipaaGreatDoor
open Go.Abs
set_option maxRecDepth 100000
namespace SessionNone
theorem run : isT (call pl26 1000000 7 [] σ0) = true := by kernel_rfl
end SessionNone
end Go.Proofs.YtincemehblfipaaGreatDoor
