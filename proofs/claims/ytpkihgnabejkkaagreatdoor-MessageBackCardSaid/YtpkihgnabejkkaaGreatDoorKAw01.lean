/- The examples of the chapters 1, 2, 3, 4, 5, 6, 7, 8, 9, 10: each one run. -/
import Derived.Test.YtpkihgnabejkkaaGreatDoorKPl
namespace Go.Proofs.YtpkihgnabejkkaaGreatDoor
open Go.aJ
set_option maxRecDepth 100000
theorem ajW:jX (call Ia 1000000 290 [] σ0)=true:=by kernel_rfl
theorem ajX:jX (call Oe 1000000 288 [] σ0)=true:=by kernel_rfl
theorem ajY:jX (call Og 1000000 285 [] σ0)=true:=by kernel_rfl
theorem ajZ:jX (call Oh 1000000 280 [] σ0)=true:=by kernel_rfl
theorem aj0:jX (call Oi 1000000 270 [] σ0)=true:=by kernel_rfl
theorem aj1:jX (call Oj 1000000 264 [] σ0)=true:=by kernel_rfl
theorem aj2:jX (call Ol 1000000 262 [] σ0)=true:=by kernel_rfl
theorem aj3:jX (call Om 1000000 255 [] σ0)=true:=by kernel_rfl
theorem aj6:jX (call Oo 1000000 240 [] σ0)=true:=by kernel_rfl
theorem aj7:jX (call Oq 1000000 229 [] σ0)=true:=by kernel_rfl
end Go.Proofs.YtpkihgnabejkkaaGreatDoor
