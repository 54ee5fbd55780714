/- The examples of the chapters 13, 14, 15: each one run. -/
import Derived.Test.YthgifdbaegpbpaaGreatDoorKPl
namespace Go.Proofs.YthgifdbaegpbpaaGreatDoor
open Go.aP
set_option maxRecDepth 100000
theorem am8:jK (call Rx 1000000 272 [] σ0)=true:=by kernel_rfl
theorem am9:jK (call Ry 1000000 268 [] σ0)=true:=by kernel_rfl
theorem ana:jK (call Rz 1000000 264 [] σ0)=true:=by kernel_rfl
end Go.Proofs.YthgifdbaegpbpaaGreatDoor
