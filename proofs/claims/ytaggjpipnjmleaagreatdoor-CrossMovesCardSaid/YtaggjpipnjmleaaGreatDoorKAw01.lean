/- The examples of the chapters 1, 2, 3, 4, 5, 6, 7, 8, 9, 10: each one run. -/
import Derived.Test.YtaggjpipnjmleaaGreatDoorKPl
namespace Go.Proofs.YtaggjpipnjmleaaGreatDoor
open Go.aJ
set_option maxRecDepth 100000
theorem apr:kY (call Qa 1000000 316 [] σ0)=true:=by kernel_rfl
theorem aps:kY (call V8 1000000 314 [] σ0)=true:=by kernel_rfl
theorem apt:kY (call V9 1000000 311 [] σ0)=true:=by kernel_rfl
theorem apu:kY (call Wh 1000000 306 [] σ0)=true:=by kernel_rfl
theorem apv:kY (call Wi 1000000 296 [] σ0)=true:=by kernel_rfl
theorem apw:kY (call Wj 1000000 290 [] σ0)=true:=by kernel_rfl
theorem apx:kY (call Wl 1000000 288 [] σ0)=true:=by kernel_rfl
theorem apy:kY (call Wn 1000000 286 [] σ0)=true:=by kernel_rfl
theorem apz:kY (call Wp 1000000 284 [] σ0)=true:=by kernel_rfl
theorem apA:kY (call Wq 1000000 277 [] σ0)=true:=by kernel_rfl
end Go.Proofs.YtaggjpipnjmleaaGreatDoor
