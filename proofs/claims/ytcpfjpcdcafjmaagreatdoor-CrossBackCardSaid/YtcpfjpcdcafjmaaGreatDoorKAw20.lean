/- The examples of the chapters 20: each one run. -/
import Derived.Test.YtcpfjpcdcafjmaaGreatDoorKPl
namespace Go.Proofs.YtcpfjpcdcafjmaaGreatDoor
open Go.aO
set_option maxRecDepth 100000
theorem aej:lC (call Xg 1000000 5 [] σ0)=true:=by kernel_rfl
end Go.Proofs.YtcpfjpcdcafjmaaGreatDoor
