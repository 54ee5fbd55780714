/- The examples of the chapters 24: each one run. -/
import Derived.Test.YtmollgejfopolaaGreatDoorKPl
namespace Go.Proofs.YtmollgejfopolaaGreatDoor
open Go.Abs
set_option maxRecDepth 100000
theorem run24 : isT (call pl23 1000000 146 [] σ0) = true := by kernel_rfl
end Go.Proofs.YtmollgejfopolaaGreatDoor
