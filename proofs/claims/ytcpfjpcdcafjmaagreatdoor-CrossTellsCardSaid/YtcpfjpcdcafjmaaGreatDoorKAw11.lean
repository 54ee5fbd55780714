/- The examples of the chapters 11, 12: each one run. -/
import Derived.Test.YtcpfjpcdcafjmaaGreatDoorKPl
namespace Go.Proofs.YtcpfjpcdcafjmaaGreatDoor
open Go.aN
set_option maxRecDepth 100000
theorem alb:lF (call Uu 1000000 264 [] σ0)=true:=by kernel_rfl
theorem alc:lF (call Uw 1000000 237 [] σ0)=true:=by kernel_rfl
end Go.Proofs.YtcpfjpcdcafjmaaGreatDoor
