/- The examples of the chapters 13, 14, 15: each one run. -/
import Derived.Test.YthgifdbaegpbpaaGreatDoorKPl
namespace Go.Proofs.YthgifdbaegpbpaaGreatDoor
open Go.aK
set_option maxRecDepth 100000
theorem anj:lY (call UA 1000000 272 [] σ0)=true:=by kernel_rfl
theorem ank:lY (call UC 1000000 268 [] σ0)=true:=by kernel_rfl
theorem anl:lY (call UD 1000000 264 [] σ0)=true:=by kernel_rfl
end Go.Proofs.YthgifdbaegpbpaaGreatDoor
