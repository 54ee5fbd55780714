/- The examples of the chapters 16, 17: each one run. -/
import Derived.Test.YthgifdbaegpbpaaGreatDoorKPl
namespace Go.Proofs.YthgifdbaegpbpaaGreatDoor
open Go.aP
set_option maxRecDepth 100000
theorem anb:jK (call RD 1000000 253 [] σ0)=true:=by kernel_rfl
theorem ane:jK (call RF 1000000 195 [] σ0)=true:=by kernel_rfl
end Go.Proofs.YthgifdbaegpbpaaGreatDoor
