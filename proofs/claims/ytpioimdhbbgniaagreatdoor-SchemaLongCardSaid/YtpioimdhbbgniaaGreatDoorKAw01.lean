/- The examples of the chapters 1, 2, 3, 4, 5, 6, 7, 8, 9, 10: each one run. -/
import Derived.Test.YtpioimdhbbgniaaGreatDoorKPl
namespace Go.Proofs.YtpioimdhbbgniaaGreatDoor
open Go.aJ
set_option maxRecDepth 100000
theorem ak5:kL (call OZ 1000000 255 [] σ0)=true:=by kernel_rfl
theorem ak6:kL (call UQ 1000000 253 [] σ0)=true:=by kernel_rfl
theorem ak7:kL (call UR 1000000 250 [] σ0)=true:=by kernel_rfl
theorem ak8:kL (call UU 1000000 245 [] σ0)=true:=by kernel_rfl
theorem ak9:kL (call UW 1000000 235 [] σ0)=true:=by kernel_rfl
theorem ala:kL (call UY 1000000 229 [] σ0)=true:=by kernel_rfl
theorem alb:kL (call UZ 1000000 227 [] σ0)=true:=by kernel_rfl
theorem alc:kL (call U0 1000000 225 [] σ0)=true:=by kernel_rfl
theorem ald:kL (call U1 1000000 223 [] σ0)=true:=by kernel_rfl
theorem ale:kL (call U2 1000000 216 [] σ0)=true:=by kernel_rfl
end Go.Proofs.YtpioimdhbbgniaaGreatDoor
