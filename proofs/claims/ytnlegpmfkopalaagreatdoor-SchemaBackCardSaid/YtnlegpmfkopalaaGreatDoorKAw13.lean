/- The examples of the chapters 13, 14, 15: each one run. -/
import Derived.Test.YtnlegpmfkopalaaGreatDoorKPl
namespace Go.Proofs.YtnlegpmfkopalaaGreatDoor
open Go.aN
set_option maxRecDepth 100000
theorem aoh:lN (call Wl 1000000 187 [] σ0)=true:=by kernel_rfl
theorem aoi:lN (call Wn 1000000 183 [] σ0)=true:=by kernel_rfl
theorem aoj:lN (call Wp 1000000 179 [] σ0)=true:=by kernel_rfl
end Go.Proofs.YtnlegpmfkopalaaGreatDoor
