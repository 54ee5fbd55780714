/- The examples of the chapters 1, 2, 3, 4, 5, 6, 7, 8, 9, 10: each one run. -/
import Derived.Test.YtcpfjpcdcafjmaaGreatDoorKPl
namespace Go.Proofs.YtcpfjpcdcafjmaaGreatDoor
open Go.aN
set_option maxRecDepth 100000
theorem ak1:lF (call Oi 1000000 320 [] σ0)=true:=by kernel_rfl
theorem ak2:lF (call Uj 1000000 318 [] σ0)=true:=by kernel_rfl
theorem ak3:lF (call Uk 1000000 315 [] σ0)=true:=by kernel_rfl
theorem ak4:lF (call Ul 1000000 310 [] σ0)=true:=by kernel_rfl
theorem ak5:lF (call Um 1000000 300 [] σ0)=true:=by kernel_rfl
theorem ak6:lF (call Un 1000000 294 [] σ0)=true:=by kernel_rfl
theorem ak7:lF (call Uo 1000000 292 [] σ0)=true:=by kernel_rfl
theorem ak8:lF (call Ur 1000000 290 [] σ0)=true:=by kernel_rfl
theorem ak9:lF (call Us 1000000 288 [] σ0)=true:=by kernel_rfl
theorem ala:lF (call Ut 1000000 281 [] σ0)=true:=by kernel_rfl
end Go.Proofs.YtcpfjpcdcafjmaaGreatDoor
