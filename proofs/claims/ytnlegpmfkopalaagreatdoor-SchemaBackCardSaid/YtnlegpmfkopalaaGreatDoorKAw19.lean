/- The examples of the chapters 19: each one run. -/
import Derived.Test.YtnlegpmfkopalaaGreatDoorKPl
namespace Go.Proofs.YtnlegpmfkopalaaGreatDoor
open Go.aN
set_option maxRecDepth 100000
theorem adK:lN (call Wu 1000000 4 [] σ0)=true:=by kernel_rfl
end Go.Proofs.YtnlegpmfkopalaaGreatDoor
