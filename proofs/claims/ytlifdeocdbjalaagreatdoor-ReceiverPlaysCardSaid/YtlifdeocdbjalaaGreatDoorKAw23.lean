/- The examples of the chapters 23: each one run. -/
import Derived.Test.YtlifdeocdbjalaaGreatDoorKPl
namespace Go.Proofs.YtlifdeocdbjalaaGreatDoor
open Go.aN
set_option maxRecDepth 100000
theorem am9:gX (call QF 1000000 137 [] σ0)=true:=by kernel_rfl
end Go.Proofs.YtlifdeocdbjalaaGreatDoor
