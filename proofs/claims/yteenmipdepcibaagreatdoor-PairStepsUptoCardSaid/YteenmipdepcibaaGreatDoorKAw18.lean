/- The examples of the chapters: each one run. -/
import Derived.Test.YteenmipdepcibaaGreatDoorKPl
namespace Go.Proofs.YteenmipdepcibaaGreatDoor
open Go.aN
set_option maxRecDepth 100000
theorem axa:jP (call I7 1000000 266 [] J0)=true:=by kernel_rfl
theorem axb:jP (call aar 1000000 264 [] J0)=true:=by kernel_rfl
theorem axc:jP (call aas 1000000 260 [] J0)=true:=by kernel_rfl
theorem axd:jP (call aat 1000000 258 [] J0)=true:=by kernel_rfl
theorem axe:jP (call aau 1000000 253 [] J0)=true:=by kernel_rfl
