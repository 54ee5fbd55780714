/- The examples of the chapters 11, 12: each one run. -/
import Derived.Test.YthgifdbaegpbpaaGreatDoorKPl
namespace Go.Proofs.YthgifdbaegpbpaaGreatDoor
open Go.aK
set_option maxRecDepth 100000
theorem anh:lY (call Uy 1000000 305 [] σ0)=true:=by kernel_rfl
theorem ani:lY (call Uz 1000000 278 [] σ0)=true:=by kernel_rfl
end Go.Proofs.YthgifdbaegpbpaaGreatDoor
