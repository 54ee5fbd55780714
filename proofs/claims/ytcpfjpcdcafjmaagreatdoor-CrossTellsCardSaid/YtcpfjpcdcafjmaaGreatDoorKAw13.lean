/- The examples of the chapters 13, 14, 15: each one run. -/
import Derived.Test.YtcpfjpcdcafjmaaGreatDoorKPl
namespace Go.Proofs.YtcpfjpcdcafjmaaGreatDoor
open Go.aN
set_option maxRecDepth 100000
theorem ald:lF (call Ux 1000000 231 [] σ0)=true:=by kernel_rfl
theorem ale:lF (call Uy 1000000 227 [] σ0)=true:=by kernel_rfl
theorem alf:lF (call Uz 1000000 223 [] σ0)=true:=by kernel_rfl
end Go.Proofs.YtcpfjpcdcafjmaaGreatDoor
