/- The examples of the chapters 1, 2, 3, 4, 5, 6, 7, 8, 9, 10: each one run. -/
import Derived.Test.YthgifdbaegpbpaaGreatDoorKPl
namespace Go.Proofs.YthgifdbaegpbpaaGreatDoor
open Go.aP
set_option maxRecDepth 100000
theorem amW:jK (call JD 1000000 345 [] σ0)=true:=by kernel_rfl
theorem amX:jK (call Rh 1000000 343 [] σ0)=true:=by kernel_rfl
theorem amY:jK (call Ri 1000000 341 [] σ0)=true:=by kernel_rfl
theorem amZ:jK (call Rj 1000000 339 [] σ0)=true:=by kernel_rfl
theorem am0:jK (call Rk 1000000 337 [] σ0)=true:=by kernel_rfl
theorem am1:jK (call Rl 1000000 335 [] σ0)=true:=by kernel_rfl
theorem am2:jK (call Rn 1000000 333 [] σ0)=true:=by kernel_rfl
theorem am3:jK (call Ro 1000000 331 [] σ0)=true:=by kernel_rfl
theorem am4:jK (call Rq 1000000 329 [] σ0)=true:=by kernel_rfl
theorem am5:jK (call Rt 1000000 322 [] σ0)=true:=by kernel_rfl
end Go.Proofs.YthgifdbaegpbpaaGreatDoor
