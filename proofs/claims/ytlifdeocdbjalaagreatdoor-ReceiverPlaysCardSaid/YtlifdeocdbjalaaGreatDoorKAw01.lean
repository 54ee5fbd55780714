/- The examples of the chapters 1, 2, 3, 4, 5, 6, 7, 8, 9, 10: each one run. -/
import Derived.Test.YtlifdeocdbjalaaGreatDoorKPl
namespace Go.Proofs.YtlifdeocdbjalaaGreatDoor
open Go.aN
set_option maxRecDepth 100000
theorem amN:gX (call Jj 1000000 362 [] σ0)=true:=by kernel_rfl
theorem amO:gX (call Qj 1000000 360 [] σ0)=true:=by kernel_rfl
theorem amP:gX (call Qk 1000000 357 [] σ0)=true:=by kernel_rfl
theorem amQ:gX (call Ql 1000000 352 [] σ0)=true:=by kernel_rfl
theorem amR:gX (call Qm 1000000 342 [] σ0)=true:=by kernel_rfl
theorem amS:gX (call Qn 1000000 336 [] σ0)=true:=by kernel_rfl
theorem amT:gX (call Qo 1000000 334 [] σ0)=true:=by kernel_rfl
theorem amU:gX (call Qp 1000000 332 [] σ0)=true:=by kernel_rfl
theorem amV:gX (call Qq 1000000 330 [] σ0)=true:=by kernel_rfl
theorem amW:gX (call Qr 1000000 323 [] σ0)=true:=by kernel_rfl
end Go.Proofs.YtlifdeocdbjalaaGreatDoor
