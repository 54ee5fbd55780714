/- The evaluator's run of the law KindsRise. -/
import Derived.Test.YtjpgiloggpfehaaGreatDoorKRAw4
namespace Go.Proofs.YtjpgiloggpfehaaGreatDoor
open Go.Abs
set_option maxRecDepth 100000
namespace KindsRise
theorem run : isT (call pl17 100000 13 [] σ0) = true := by kernel_rfl
end KindsRise
end Go.Proofs.YtjpgiloggpfehaaGreatDoor
