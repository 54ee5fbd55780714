/- The examples of the chapters: each one run. -/
import Derived.Test.YtilkjidelblkfaaGreatDoorKPl
namespace Go.Proofs.YtilkjidelblkfaaGreatDoor
open Go.aJ
set_option maxRecDepth 100000
theorem aqk:jG (call FW 1000000 254 [] σ0)=true:=by kernel_rfl
theorem aql:jG (call XJ 1000000 252 [] σ0)=true:=by kernel_rfl
theorem aqm:jG (call XK 1000000 248 [] σ0)=true:=by kernel_rfl
theorem aqn:jG (call XL 1000000 246 [] σ0)=true:=by kernel_rfl
theorem aqo:jG (call XM 1000000 237 [] σ0)=true:=by kernel_rfl
end Go.Proofs.YtilkjidelblkfaaGreatDoor
