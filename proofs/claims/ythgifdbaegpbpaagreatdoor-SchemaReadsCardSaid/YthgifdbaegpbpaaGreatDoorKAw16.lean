/- The examples of the chapters 16, 17: each one run. -/
import Derived.Test.YthgifdbaegpbpaaGreatDoorKPl
namespace Go.Proofs.YthgifdbaegpbpaaGreatDoor
open Go.aK
set_option maxRecDepth 100000
theorem anm:lY (call UE 1000000 253 [] σ0)=true:=by kernel_rfl
theorem ano:lY (call UF 1000000 195 [] σ0)=true:=by kernel_rfl
end Go.Proofs.YthgifdbaegpbpaaGreatDoor
