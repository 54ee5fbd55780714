/- The examples of the chapters: each one run. -/
import Derived.Test.YtkoclengoeonnaaGreatDoorKPl
namespace Go.Proofs.YtkoclengoeonnaaGreatDoor
open Go.aP
set_option maxRecDepth 100000
theorem ax2:jy (call JD 1000000 259 [] J0)=true:=by kernel_rfl
theorem ax3:jy (call aa4 1000000 184 [] J0)=true:=by kernel_rfl
theorem ax4:jy (call aa5 1000000 96 [] J0)=true:=by kernel_rfl
theorem ax5:jy (call aa6 1000000 413 [] J0)=true:=by kernel_rfl
theorem ax6:jy (call aa7 1000000 407 [] J0)=true:=by kernel_rfl
