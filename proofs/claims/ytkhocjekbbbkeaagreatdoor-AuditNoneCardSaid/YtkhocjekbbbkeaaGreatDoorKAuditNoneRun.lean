/- The evaluator's run of the law AuditNone. -/
import Derived.Test.YtkhocjekbbbkeaaGreatDoorKPl
namespace Go.Proofs.YtkhocjekbbbkeaaGreatDoor
open Go.Abs
set_option maxRecDepth 100000
namespace AuditNone
theorem run : isT (call pl30 1000000 3 [] σ0) = true := by kernel_rfl
end AuditNone
end Go.Proofs.YtkhocjekbbbkeaaGreatDoor
