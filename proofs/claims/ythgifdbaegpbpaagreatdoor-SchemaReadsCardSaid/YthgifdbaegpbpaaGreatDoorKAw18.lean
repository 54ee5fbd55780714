/- The examples of the chapters 18: each one run. -/
import Derived.Test.YthgifdbaegpbpaaGreatDoorKPl
namespace Go.Proofs.YthgifdbaegpbpaaGreatDoor
open Go.aK
set_option maxRecDepth 100000
theorem anp:lY (call Ez 1000000 99 [] σ0)=true:=by kernel_rfl
end Go.Proofs.YthgifdbaegpbpaaGreatDoor
