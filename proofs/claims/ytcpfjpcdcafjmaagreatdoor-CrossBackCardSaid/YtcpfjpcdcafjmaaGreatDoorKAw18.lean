/- The examples of the chapters 18: each one run. -/
import Derived.Test.YtcpfjpcdcafjmaaGreatDoorKPl
namespace Go.Proofs.YtcpfjpcdcafjmaaGreatDoor
open Go.aO
set_option maxRecDepth 100000
theorem aoJ:lC (call FV 1000000 142 [] σ0)=true:=by kernel_rfl
end Go.Proofs.YtcpfjpcdcafjmaaGreatDoor
