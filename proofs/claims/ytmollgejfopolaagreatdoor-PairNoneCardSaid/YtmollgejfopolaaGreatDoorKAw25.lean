/- The examples of the chapters 25: each one run. -/
import Derived.Test.YtmollgejfopolaaGreatDoorKPl
namespace Go.Proofs.YtmollgejfopolaaGreatDoor
open Go.Abs
set_option maxRecDepth 100000
theorem run25 : isT (call pl24 1000000 82 [] σ0) = true := by kernel_rfl
end Go.Proofs.YtmollgejfopolaaGreatDoor
