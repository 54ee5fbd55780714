/- The examples of the chapters 11, 12: each one run. -/
import Derived.Test.YtlifdeocdbjalaaGreatDoorKPl
namespace Go.Proofs.YtlifdeocdbjalaaGreatDoor
open Go.aN
set_option maxRecDepth 100000
theorem amX:gX (call Qs 1000000 306 [] σ0)=true:=by kernel_rfl
theorem amY:gX (call Qu 1000000 279 [] σ0)=true:=by kernel_rfl
end Go.Proofs.YtlifdeocdbjalaaGreatDoor
