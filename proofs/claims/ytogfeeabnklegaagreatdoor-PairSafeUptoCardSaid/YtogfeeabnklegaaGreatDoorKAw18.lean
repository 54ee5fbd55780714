/- The examples of the chapters: each one run. -/
import Derived.Test.YtogfeeabnklegaaGreatDoorKPl
namespace Go.Proofs.YtogfeeabnklegaaGreatDoor
open Go.aP
set_option maxRecDepth 100000
theorem aBx:jg (call Ls 1000000 269 [] J0)=true:=by kernel_rfl
theorem aBy:jg (call acT 1000000 267 [] J0)=true:=by kernel_rfl
theorem aBz:jg (call acU 1000000 263 [] J0)=true:=by kernel_rfl
theorem aBA:jg (call acV 1000000 261 [] J0)=true:=by kernel_rfl
theorem aBB:jg (call acW 1000000 256 [] J0)=true:=by kernel_rfl
