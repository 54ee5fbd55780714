/- The examples of the chapters 11, 12: each one run. -/
import Derived.Test.YtjglbndncdkhhaaGreatDoorKPl
namespace Go.Proofs.YtjglbndncdkhhaaGreatDoor
open Go.aN
set_option maxRecDepth 100000
theorem anA:kS (call WI 1000000 211 [] σ0)=true:=by kernel_rfl
theorem anB:kS (call WJ 1000000 184 [] σ0)=true:=by kernel_rfl
end Go.Proofs.YtjglbndncdkhhaaGreatDoor
