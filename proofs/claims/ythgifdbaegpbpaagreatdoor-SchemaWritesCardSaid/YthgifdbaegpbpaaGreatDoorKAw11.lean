/- The examples of the chapters 11, 12: each one run. -/
import Derived.Test.YthgifdbaegpbpaaGreatDoorKPl
namespace Go.Proofs.YthgifdbaegpbpaaGreatDoor
open Go.aP
set_option maxRecDepth 100000
theorem am6:jK (call Ru 1000000 305 [] σ0)=true:=by kernel_rfl
theorem am7:jK (call Rw 1000000 278 [] σ0)=true:=by kernel_rfl
end Go.Proofs.YthgifdbaegpbpaaGreatDoor
