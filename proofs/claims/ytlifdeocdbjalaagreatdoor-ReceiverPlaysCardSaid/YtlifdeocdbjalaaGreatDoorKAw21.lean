/- The examples of the chapters 21: each one run. -/
import Derived.Test.YtlifdeocdbjalaaGreatDoorKPl
namespace Go.Proofs.YtlifdeocdbjalaaGreatDoor
open Go.aN
set_option maxRecDepth 100000
theorem am7:gX (call QD 1000000 182 [] σ0)=true:=by kernel_rfl
end Go.Proofs.YtlifdeocdbjalaaGreatDoor
