/- The examples of the chapters 13, 14, 15: each one run. -/
import Derived.Test.YtjglbndncdkhhaaGreatDoorKPl
namespace Go.Proofs.YtjglbndncdkhhaaGreatDoor
open Go.aN
set_option maxRecDepth 100000
theorem anC:kS (call WM 1000000 178 [] σ0)=true:=by kernel_rfl
theorem anD:kS (call WO 1000000 174 [] σ0)=true:=by kernel_rfl
theorem anE:kS (call WQ 1000000 170 [] σ0)=true:=by kernel_rfl
end Go.Proofs.YtjglbndncdkhhaaGreatDoor
