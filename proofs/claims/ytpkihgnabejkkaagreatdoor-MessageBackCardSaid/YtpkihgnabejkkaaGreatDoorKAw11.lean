/- The examples of the chapters 11, 12: each one run. -/
import Derived.Test.YtpkihgnabejkkaaGreatDoorKPl
namespace Go.Proofs.YtpkihgnabejkkaaGreatDoor
open Go.aJ
set_option maxRecDepth 100000
theorem aj8:jX (call Ot 1000000 212 [] σ0)=true:=by kernel_rfl
theorem aj9:jX (call Ou 1000000 185 [] σ0)=true:=by kernel_rfl
end Go.Proofs.YtpkihgnabejkkaaGreatDoor
