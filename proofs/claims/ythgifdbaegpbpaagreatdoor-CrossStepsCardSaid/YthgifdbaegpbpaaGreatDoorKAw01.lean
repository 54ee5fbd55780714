/- The examples of the chapters 1, 2, 3, 4, 5, 6, 7, 8, 9, 10: each one run. -/
import Derived.Test.YthgifdbaegpbpaaGreatDoorKPl
namespace Go.Proofs.YthgifdbaegpbpaaGreatDoor
open Go.aN
set_option maxRecDepth 100000
theorem anr:kW (call P9 1000000 345 [] σ0)=true:=by kernel_rfl
theorem ant:kW (call VW 1000000 343 [] σ0)=true:=by kernel_rfl
theorem anu:kW (call VX 1000000 341 [] σ0)=true:=by kernel_rfl
theorem anv:kW (call VY 1000000 339 [] σ0)=true:=by kernel_rfl
theorem anw:kW (call VZ 1000000 337 [] σ0)=true:=by kernel_rfl
theorem anx:kW (call V3 1000000 335 [] σ0)=true:=by kernel_rfl
theorem anz:kW (call V4 1000000 333 [] σ0)=true:=by kernel_rfl
theorem anA:kW (call V5 1000000 331 [] σ0)=true:=by kernel_rfl
theorem anB:kW (call V6 1000000 329 [] σ0)=true:=by kernel_rfl
theorem anC:kW (call V7 1000000 322 [] σ0)=true:=by kernel_rfl
end Go.Proofs.YthgifdbaegpbpaaGreatDoor
