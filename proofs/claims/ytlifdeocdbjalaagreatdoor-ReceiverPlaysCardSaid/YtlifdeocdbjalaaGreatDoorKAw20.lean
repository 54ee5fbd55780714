/- The examples of the chapters 20: each one run. -/
import Derived.Test.YtlifdeocdbjalaaGreatDoorKPl
namespace Go.Proofs.YtlifdeocdbjalaaGreatDoor
open Go.aN
set_option maxRecDepth 100000
theorem am6:gX (call QC 1000000 190 [] σ0)=true:=by kernel_rfl
end Go.Proofs.YtlifdeocdbjalaaGreatDoor
