/- The examples of the chapters 11, 12: each one run. -/
import Derived.Test.YtpioimdhbbgniaaGreatDoorKPl
namespace Go.Proofs.YtpioimdhbbgniaaGreatDoor
open Go.aJ
set_option maxRecDepth 100000
theorem alf:kL (call U3 1000000 199 [] σ0)=true:=by kernel_rfl
theorem alg:kL (call U4 1000000 172 [] σ0)=true:=by kernel_rfl
end Go.Proofs.YtpioimdhbbgniaaGreatDoor
