/- The examples of the chapters 16, 17: each one run. -/
import Derived.Test.YtcpfjpcdcafjmaaGreatDoorKPl
namespace Go.Proofs.YtcpfjpcdcafjmaaGreatDoor
open Go.aO
set_option maxRecDepth 100000
theorem aoH:lC (call Xc 1000000 215 [] σ0)=true:=by kernel_rfl
theorem aoI:lC (call Xd 1000000 200 [] σ0)=true:=by kernel_rfl
end Go.Proofs.YtcpfjpcdcafjmaaGreatDoor
