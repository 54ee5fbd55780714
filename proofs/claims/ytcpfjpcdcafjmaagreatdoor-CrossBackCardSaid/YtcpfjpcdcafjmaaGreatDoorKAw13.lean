/- The examples of the chapters 13, 14, 15: each one run. -/
import Derived.Test.YtcpfjpcdcafjmaaGreatDoorKPl
namespace Go.Proofs.YtcpfjpcdcafjmaaGreatDoor
open Go.aO
set_option maxRecDepth 100000
theorem aoE:lC (call W9 1000000 231 [] σ0)=true:=by kernel_rfl
theorem aoF:lC (call Xa 1000000 227 [] σ0)=true:=by kernel_rfl
theorem aoG:lC (call Xb 1000000 223 [] σ0)=true:=by kernel_rfl
end Go.Proofs.YtcpfjpcdcafjmaaGreatDoor
