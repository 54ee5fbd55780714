/- The examples of the chapters 22: each one run. -/
import Derived.Test.YtlifdeocdbjalaaGreatDoorKPl
namespace Go.Proofs.YtlifdeocdbjalaaGreatDoor
open Go.aN
set_option maxRecDepth 100000
theorem am8:gX (call QE 1000000 170 [] σ0)=true:=by kernel_rfl
end Go.Proofs.YtlifdeocdbjalaaGreatDoor
