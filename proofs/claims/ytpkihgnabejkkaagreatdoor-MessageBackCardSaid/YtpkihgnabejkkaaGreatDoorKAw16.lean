/- The examples of the chapters 16, 17: each one run. -/
import Derived.Test.YtpkihgnabejkkaaGreatDoorKPl
namespace Go.Proofs.YtpkihgnabejkkaaGreatDoor
open Go.aJ
set_option maxRecDepth 100000
theorem ake:jX (call Oz 1000000 136 [] σ0)=true:=by kernel_rfl
theorem akf:jX (call OA 1000000 58 [] σ0)=true:=by kernel_rfl
end Go.Proofs.YtpkihgnabejkkaaGreatDoor
