/- The examples of the chapters 18: each one run. -/
import Derived.Test.YtpkihgnabejkkaaGreatDoorKPl
namespace Go.Proofs.YtpkihgnabejkkaaGreatDoor
open Go.aJ
set_option maxRecDepth 100000
theorem aa0:jX (call zl 1000000 5 [] σ0)=true:=by kernel_rfl
end Go.Proofs.YtpkihgnabejkkaaGreatDoor
