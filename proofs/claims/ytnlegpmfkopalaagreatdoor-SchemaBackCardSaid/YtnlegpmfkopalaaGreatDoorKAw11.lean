/- The examples of the chapters 11, 12: each one run. -/
import Derived.Test.YtnlegpmfkopalaaGreatDoorKPl
namespace Go.Proofs.YtnlegpmfkopalaaGreatDoor
open Go.aN
set_option maxRecDepth 100000
theorem aof:lN (call Wi 1000000 220 [] σ0)=true:=by kernel_rfl
theorem aog:lN (call Wj 1000000 193 [] σ0)=true:=by kernel_rfl
end Go.Proofs.YtnlegpmfkopalaaGreatDoor
