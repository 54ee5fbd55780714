/- The examples of the chapters 1, 2, 3, 4, 5, 6, 7, 8, 9, 10: each one run. -/
import Derived.Test.YthgifdbaegpbpaaGreatDoorKPl
namespace Go.Proofs.YthgifdbaegpbpaaGreatDoor
open Go.aK
set_option maxRecDepth 100000
theorem am5:lY (call OA 1000000 345 [] σ0)=true:=by kernel_rfl
theorem am6:lY (call Um 1000000 343 [] σ0)=true:=by kernel_rfl
theorem am7:lY (call Un 1000000 341 [] σ0)=true:=by kernel_rfl
theorem am8:lY (call Uo 1000000 339 [] σ0)=true:=by kernel_rfl
theorem am9:lY (call Ur 1000000 337 [] σ0)=true:=by kernel_rfl
theorem ana:lY (call Us 1000000 335 [] σ0)=true:=by kernel_rfl
theorem anb:lY (call Ut 1000000 333 [] σ0)=true:=by kernel_rfl
theorem ane:lY (call Uu 1000000 331 [] σ0)=true:=by kernel_rfl
theorem anf:lY (call Uw 1000000 329 [] σ0)=true:=by kernel_rfl
theorem ang:lY (call Ux 1000000 322 [] σ0)=true:=by kernel_rfl
end Go.Proofs.YthgifdbaegpbpaaGreatDoor
