/- The examples of the chapters 16, 17: each one run. -/
import Derived.Test.YthgifdbaegpbpaaGreatDoorKPl
namespace Go.Proofs.YthgifdbaegpbpaaGreatDoor
open Go.aN
set_option maxRecDepth 100000
theorem anI:kW (call Wl 1000000 253 [] σ0)=true:=by kernel_rfl
theorem anJ:kW (call Wn 1000000 195 [] σ0)=true:=by kernel_rfl
end Go.Proofs.YthgifdbaegpbpaaGreatDoor
