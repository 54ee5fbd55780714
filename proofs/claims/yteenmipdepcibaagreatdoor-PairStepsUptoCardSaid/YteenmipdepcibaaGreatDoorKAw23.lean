/- The examples of the chapters: each one run. -/
import Derived.Test.YteenmipdepcibaaGreatDoorKPl
namespace Go.Proofs.YteenmipdepcibaaGreatDoor
open Go.aN
set_option maxRecDepth 100000
theorem axf:jP (call aav 1000000 215 [] J0)=true:=by kernel_rfl
theorem axg:jP (call aaw 1000000 157 [] J0)=true:=by kernel_rfl
theorem axh:jP (call aax 1000000 92 [] J0)=true:=by kernel_rfl
theorem axi:jP (call aay 1000000 36 [] J0)=true:=by kernel_rfl
theorem aif:jP (call aaz 1000000 4 [] J0)=true:=by kernel_rfl
