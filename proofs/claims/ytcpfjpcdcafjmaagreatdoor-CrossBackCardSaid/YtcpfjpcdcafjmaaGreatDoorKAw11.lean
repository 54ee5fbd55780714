/- The examples of the chapters 11, 12: each one run. -/
import Derived.Test.YtcpfjpcdcafjmaaGreatDoorKPl
namespace Go.Proofs.YtcpfjpcdcafjmaaGreatDoor
open Go.aO
set_option maxRecDepth 100000
theorem aoC:lC (call WY 1000000 264 [] σ0)=true:=by kernel_rfl
theorem aoD:lC (call WZ 1000000 237 [] σ0)=true:=by kernel_rfl
end Go.Proofs.YtcpfjpcdcafjmaaGreatDoor
