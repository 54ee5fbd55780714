/- The examples of the chapters 27: each one run. -/
import Derived.Test.YtmollgejfopolaaGreatDoorKPl
namespace Go.Proofs.YtmollgejfopolaaGreatDoor
open Go.Abs
set_option maxRecDepth 100000
theorem run27 : isT (call pl26 1000000 5 [] σ0) = true := by kernel_rfl
end Go.Proofs.YtmollgejfopolaaGreatDoor
