/- The examples of the chapters 16, 17: each one run. -/
import Derived.Test.YtlifdeocdbjalaaGreatDoorKPl
namespace Go.Proofs.YtlifdeocdbjalaaGreatDoor
open Go.aN
set_option maxRecDepth 100000
theorem am2:gX (call Qy 1000000 261 [] σ0)=true:=by kernel_rfl
theorem am3:gX (call Qz 1000000 232 [] σ0)=true:=by kernel_rfl
end Go.Proofs.YtlifdeocdbjalaaGreatDoor
