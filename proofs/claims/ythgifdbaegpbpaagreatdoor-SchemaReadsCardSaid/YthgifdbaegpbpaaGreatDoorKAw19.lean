/- The examples of the chapters 19: each one run. -/
import Derived.Test.YthgifdbaegpbpaaGreatDoorKPl
namespace Go.Proofs.YthgifdbaegpbpaaGreatDoor
open Go.aK
set_option maxRecDepth 100000
theorem acw:lY (call UH 1000000 9 [] σ0)=true:=by kernel_rfl
end Go.Proofs.YthgifdbaegpbpaaGreatDoor
