/- The rows of definitions are as they say: the ways of the bodies, run by the kernel. -/
import Derived.Test.YtcpfjpcdcafjmaaGreatDoorKCD
namespace Go.Proofs.YtcpfjpcdcafjmaaGreatDoor
open Go Go.aN
set_option maxRecDepth 100000
set_option linter.unusedVariables false
set_option linter.unusedSimpArgs false
namespace C
theorem g0:jA Tryz.prog dZ pl rows Ds 0 1=true:=by kernel_rfl
theorem g43:jA Tryz.prog dZ pl rows Ds 43 1=true:=by kernel_rfl
theorem g46:jA Tryz.prog dZ pl rows Ds 46 7=true:=by kernel_rfl
theorem g58:jA Tryz.prog dZ pl rows Ds 58 9=true:=by kernel_rfl
theorem g68:jA Tryz.prog dZ pl rows Ds 68 2=true:=by kernel_rfl
theorem g93:jA Tryz.prog dZ pl rows Ds 93 10=true:=by kernel_rfl
theorem agq:jA Tryz.prog dZ pl rows Ds 128 6=true:=by kernel_rfl
end C
end Go.Proofs.YtcpfjpcdcafjmaaGreatDoor
