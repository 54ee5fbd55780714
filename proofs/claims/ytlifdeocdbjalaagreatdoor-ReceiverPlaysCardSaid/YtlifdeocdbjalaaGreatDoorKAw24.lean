/- The examples of the chapters 24: each one run. -/
import Derived.Test.YtlifdeocdbjalaaGreatDoorKPl
namespace Go.Proofs.YtlifdeocdbjalaaGreatDoor
open Go.aN
set_option maxRecDepth 100000
theorem ana:gX (call QG 1000000 66 [] σ0)=true:=by kernel_rfl
end Go.Proofs.YtlifdeocdbjalaaGreatDoor
