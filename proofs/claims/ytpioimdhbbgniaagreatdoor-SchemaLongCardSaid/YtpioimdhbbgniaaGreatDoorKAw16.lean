/- The examples of the chapters 16, 17: each one run. -/
import Derived.Test.YtpioimdhbbgniaaGreatDoorKPl
namespace Go.Proofs.YtpioimdhbbgniaaGreatDoor
open Go.aJ
set_option maxRecDepth 100000
theorem alk:kL (call U8 1000000 148 [] σ0)=true:=by kernel_rfl
theorem alm:kL (call U9 1000000 106 [] σ0)=true:=by kernel_rfl
end Go.Proofs.YtpioimdhbbgniaaGreatDoor
