/- The examples of the chapters 19: each one run. -/
import Derived.Test.YtpioimdhbbgniaaGreatDoorKPl
namespace Go.Proofs.YtpioimdhbbgniaaGreatDoor
open Go.aJ
set_option maxRecDepth 100000
theorem aci:kL (call Vb 1000000 8 [] σ0)=true:=by kernel_rfl
end Go.Proofs.YtpioimdhbbgniaaGreatDoor
