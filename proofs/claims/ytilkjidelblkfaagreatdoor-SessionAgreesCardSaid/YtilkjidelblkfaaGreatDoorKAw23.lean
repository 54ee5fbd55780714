/- The examples of the chapters: each one run. -/
import Derived.Test.YtilkjidelblkfaaGreatDoorKPl
namespace Go.Proofs.YtilkjidelblkfaaGreatDoor
open Go.aJ
set_option maxRecDepth 100000
theorem aqp:jG (call XO 1000000 197 [] σ0)=true:=by kernel_rfl
theorem aqr:jG (call XP 1000000 126 [] σ0)=true:=by kernel_rfl
theorem aqs:jG (call XQ 1000000 50 [] σ0)=true:=by kernel_rfl
theorem ae7:jG (call XR 1000000 5 [] σ0)=true:=by kernel_rfl
end Go.Proofs.YtilkjidelblkfaaGreatDoor
