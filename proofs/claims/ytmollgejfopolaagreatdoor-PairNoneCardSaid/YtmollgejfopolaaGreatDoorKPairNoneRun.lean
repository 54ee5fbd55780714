/- The evaluator's run of the law PairNone. -/
import Derived.Test.YtmollgejfopolaaGreatDoorKPl
namespace Go.Proofs.YtmollgejfopolaaGreatDoor
open Go.Abs
set_option maxRecDepth 100000
namespace PairNone
theorem run : isT (call pl27 1000000 3 [] σ0) = true := by kernel_rfl
end PairNone
end Go.Proofs.YtmollgejfopolaaGreatDoor
