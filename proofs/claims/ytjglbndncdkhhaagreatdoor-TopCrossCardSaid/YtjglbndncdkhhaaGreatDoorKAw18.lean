/- The examples of the chapters 18: each one run. -/
import Derived.Test.YtjglbndncdkhhaaGreatDoorKPl
namespace Go.Proofs.YtjglbndncdkhhaaGreatDoor
open Go.aN
set_option maxRecDepth 100000
theorem anH:kS (call Et 1000000 149 [] σ0)=true:=by kernel_rfl
end Go.Proofs.YtjglbndncdkhhaaGreatDoor
