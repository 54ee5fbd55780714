/- The examples of the chapters 16, 17: each one run. -/
import Derived.Test.YtjglbndncdkhhaaGreatDoorKPl
namespace Go.Proofs.YtjglbndncdkhhaaGreatDoor
open Go.aN
set_option maxRecDepth 100000
theorem anF:kS (call WR 1000000 162 [] σ0)=true:=by kernel_rfl
theorem anG:kS (call WS 1000000 158 [] σ0)=true:=by kernel_rfl
end Go.Proofs.YtjglbndncdkhhaaGreatDoor
