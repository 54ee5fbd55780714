/- The examples of the chapters 16, 17: each one run. -/
import Derived.Test.YtnlegpmfkopalaaGreatDoorKPl
namespace Go.Proofs.YtnlegpmfkopalaaGreatDoor
open Go.aN
set_option maxRecDepth 100000
theorem aok:lN (call Wq 1000000 165 [] σ0)=true:=by kernel_rfl
theorem aol:lN (call Ws 1000000 112 [] σ0)=true:=by kernel_rfl
end Go.Proofs.YtnlegpmfkopalaaGreatDoor
