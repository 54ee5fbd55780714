/- The examples of the chapters: each one run. -/
import Derived.Test.YtcnekfnipdihgaaGreatDoorKPl
namespace Go.Proofs.YtcnekfnipdihgaaGreatDoor
open Go.aP
set_option maxRecDepth 100000
theorem aBd:jR (call KP 1000000 179 [] J0)=true:=by kernel_rfl
theorem aBe:jR (call acK 1000000 124 [] J0)=true:=by kernel_rfl
theorem aBf:jR (call acL 1000000 76 [] J0)=true:=by kernel_rfl
theorem aBg:jR (call acM 1000000 412 [] J0)=true:=by kernel_rfl
theorem aBh:jR (call acN 1000000 406 [] J0)=true:=by kernel_rfl
