/- The examples of the chapters 20: each one run. -/
import Derived.Test.YthgifdbaegpbpaaGreatDoorKPl
namespace Go.Proofs.YthgifdbaegpbpaaGreatDoor
open Go.aN
set_option maxRecDepth 100000
theorem adp:kW (call Ws 1000000 35 [] σ0)=true:=by kernel_rfl
end Go.Proofs.YthgifdbaegpbpaaGreatDoor
