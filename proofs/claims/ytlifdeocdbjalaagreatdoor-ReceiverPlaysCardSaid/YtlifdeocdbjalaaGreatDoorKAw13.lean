/- The examples of the chapters 13, 14, 15: each one run. -/
import Derived.Test.YtlifdeocdbjalaaGreatDoorKPl
namespace Go.Proofs.YtlifdeocdbjalaaGreatDoor
open Go.aN
set_option maxRecDepth 100000
theorem amZ:gX (call Qv 1000000 273 [] σ0)=true:=by kernel_rfl
theorem am0:gX (call Qw 1000000 270 [] σ0)=true:=by kernel_rfl
theorem am1:gX (call Qx 1000000 268 [] σ0)=true:=by kernel_rfl
end Go.Proofs.YtlifdeocdbjalaaGreatDoor
