/- The examples of the chapters 13, 14, 15: each one run. -/
import Derived.Test.YthgifdbaegpbpaaGreatDoorKPl
namespace Go.Proofs.YthgifdbaegpbpaaGreatDoor
open Go.aN
set_option maxRecDepth 100000
theorem anF:kW (call Wh 1000000 272 [] σ0)=true:=by kernel_rfl
theorem anG:kW (call Wi 1000000 268 [] σ0)=true:=by kernel_rfl
theorem anH:kW (call Wj 1000000 264 [] σ0)=true:=by kernel_rfl
end Go.Proofs.YthgifdbaegpbpaaGreatDoor
