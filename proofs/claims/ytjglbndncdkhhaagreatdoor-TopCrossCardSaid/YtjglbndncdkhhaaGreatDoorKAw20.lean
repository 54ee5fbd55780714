/- The examples of the chapters 20: each one run. -/
import Derived.Test.YtjglbndncdkhhaaGreatDoorKPl
namespace Go.Proofs.YtjglbndncdkhhaaGreatDoor
open Go.aN
set_option maxRecDepth 100000
theorem adM:kS (call WV 1000000 47 [] σ0)=true:=by kernel_rfl
end Go.Proofs.YtjglbndncdkhhaaGreatDoor
