/- The examples of the chapters 13, 14, 15: each one run. -/
import Derived.Test.YtpkihgnabejkkaaGreatDoorKPl
namespace Go.Proofs.YtpkihgnabejkkaaGreatDoor
open Go.aJ
set_option maxRecDepth 100000
theorem akb:jX (call Ov 1000000 179 [] σ0)=true:=by kernel_rfl
theorem akc:jX (call Ox 1000000 175 [] σ0)=true:=by kernel_rfl
theorem akd:jX (call Oy 1000000 171 [] σ0)=true:=by kernel_rfl
end Go.Proofs.YtpkihgnabejkkaaGreatDoor
