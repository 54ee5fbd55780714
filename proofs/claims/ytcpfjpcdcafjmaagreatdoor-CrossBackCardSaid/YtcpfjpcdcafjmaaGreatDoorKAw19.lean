/- The examples of the chapters 19: each one run. -/
import Derived.Test.YtcpfjpcdcafjmaaGreatDoorKPl
namespace Go.Proofs.YtcpfjpcdcafjmaaGreatDoor
open Go.aO
set_option maxRecDepth 100000
theorem aoK:lC (call Xf 1000000 63 [] σ0)=true:=by kernel_rfl
end Go.Proofs.YtcpfjpcdcafjmaaGreatDoor
