/- The examples of the chapters 1, 2, 3, 4, 5, 6, 7, 8, 9, 10: each one run. -/
import Derived.Test.YtcpfjpcdcafjmaaGreatDoorKPl
namespace Go.Proofs.YtcpfjpcdcafjmaaGreatDoor
open Go.aO
set_option maxRecDepth 100000
theorem aos:lC (call QB 1000000 320 [] σ0)=true:=by kernel_rfl
theorem aot:lC (call WO 1000000 318 [] σ0)=true:=by kernel_rfl
theorem aou:lC (call WQ 1000000 315 [] σ0)=true:=by kernel_rfl
theorem aov:lC (call WR 1000000 310 [] σ0)=true:=by kernel_rfl
theorem aow:lC (call WS 1000000 300 [] σ0)=true:=by kernel_rfl
theorem aox:lC (call WT 1000000 294 [] σ0)=true:=by kernel_rfl
theorem aoy:lC (call WU 1000000 292 [] σ0)=true:=by kernel_rfl
theorem aoz:lC (call WV 1000000 290 [] σ0)=true:=by kernel_rfl
theorem aoA:lC (call WW 1000000 288 [] σ0)=true:=by kernel_rfl
theorem aoB:lC (call WX 1000000 281 [] σ0)=true:=by kernel_rfl
end Go.Proofs.YtcpfjpcdcafjmaaGreatDoor
