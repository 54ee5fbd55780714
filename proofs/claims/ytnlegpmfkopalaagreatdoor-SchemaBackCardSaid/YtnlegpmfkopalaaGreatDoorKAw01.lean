/- The examples of the chapters 1, 2, 3, 4, 5, 6, 7, 8, 9, 10: each one run. -/
import Derived.Test.YtnlegpmfkopalaaGreatDoorKPl
namespace Go.Proofs.YtnlegpmfkopalaaGreatDoor
open Go.aN
set_option maxRecDepth 100000
theorem an5:lN (call Qc 1000000 260 [] σ0)=true:=by kernel_rfl
theorem an6:lN (call VZ 1000000 258 [] σ0)=true:=by kernel_rfl
theorem an7:lN (call V3 1000000 256 [] σ0)=true:=by kernel_rfl
theorem an8:lN (call V4 1000000 254 [] σ0)=true:=by kernel_rfl
theorem an9:lN (call V5 1000000 252 [] σ0)=true:=by kernel_rfl
theorem aoa:lN (call V6 1000000 250 [] σ0)=true:=by kernel_rfl
theorem aob:lN (call V7 1000000 248 [] σ0)=true:=by kernel_rfl
theorem aoc:lN (call V8 1000000 246 [] σ0)=true:=by kernel_rfl
theorem aod:lN (call V9 1000000 244 [] σ0)=true:=by kernel_rfl
theorem aoe:lN (call Wh 1000000 237 [] σ0)=true:=by kernel_rfl
end Go.Proofs.YtnlegpmfkopalaaGreatDoor
