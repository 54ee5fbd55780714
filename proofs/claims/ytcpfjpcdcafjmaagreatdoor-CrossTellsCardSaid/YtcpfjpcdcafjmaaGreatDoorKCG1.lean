/- The rows of definitions are as they say: the ways of the bodies, run by the kernel. -/
import Derived.Test.YtcpfjpcdcafjmaaGreatDoorKCD
namespace Go.Proofs.YtcpfjpcdcafjmaaGreatDoor
open Go Go.aN
set_option maxRecDepth 100000
set_option linter.unusedVariables false
set_option linter.unusedSimpArgs false
namespace C
theorem g2:jA Tryz.prog dZ pl rows Ds 2 13=true:=by kernel_rfl
theorem g15:jA Tryz.prog dZ pl rows Ds 15 14=true:=by kernel_rfl
theorem g67:jA Tryz.prog dZ pl rows Ds 67 1=true:=by kernel_rfl
theorem g70:jA Tryz.prog dZ pl rows Ds 70 3=true:=by kernel_rfl
theorem g79:jA Tryz.prog dZ pl rows Ds 79 12=true:=by kernel_rfl
theorem agk:jA Tryz.prog dZ pl rows Ds 103 1=true:=by kernel_rfl
end C
end Go.Proofs.YtcpfjpcdcafjmaaGreatDoor
