/- The examples of the chapters: each one run. -/
import Derived.Test.YtogfeeabnklegaaGreatDoorKPl
namespace Go.Proofs.YtogfeeabnklegaaGreatDoor
open Go.aP
set_option maxRecDepth 100000
theorem aBC:jg (call acX 1000000 218 [] J0)=true:=by kernel_rfl
theorem aBD:jg (call acY 1000000 169 [] J0)=true:=by kernel_rfl
theorem aBE:jg (call acZ 1000000 109 [] J0)=true:=by kernel_rfl
theorem aBF:jg (call ac0 1000000 47 [] J0)=true:=by kernel_rfl
theorem alC:jg (call ac1 1000000 4 [] J0)=true:=by kernel_rfl
