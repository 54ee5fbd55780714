/- The examples of the chapters 18: each one run. -/
import Derived.Test.YtnlegpmfkopalaaGreatDoorKPl
namespace Go.Proofs.YtnlegpmfkopalaaGreatDoor
open Go.aN
set_option maxRecDepth 100000
theorem aom:lN (call EZ 1000000 41 [] σ0)=true:=by kernel_rfl
end Go.Proofs.YtnlegpmfkopalaaGreatDoor
