/- The rows of definitions are as they say: the ways of the bodies, run by the kernel. -/
import Derived.Test.YtcpfjpcdcafjmaaGreatDoorKCD
namespace Go.Proofs.YtcpfjpcdcafjmaaGreatDoor
open Go Go.aN
set_option maxRecDepth 100000
set_option linter.unusedVariables false
set_option linter.unusedSimpArgs false
namespace C
theorem g1:jA Tryz.prog dZ pl rows Ds 1 1=true:=by kernel_rfl
theorem g29:jA Tryz.prog dZ pl rows Ds 29 8=true:=by kernel_rfl
theorem g37:jA Tryz.prog dZ pl rows Ds 37 1=true:=by kernel_rfl
theorem g44:jA Tryz.prog dZ pl rows Ds 44 1=true:=by kernel_rfl
theorem g73:jA Tryz.prog dZ pl rows Ds 73 6=true:=by kernel_rfl
theorem agl:jA Tryz.prog dZ pl rows Ds 104 7=true:=by kernel_rfl
theorem agm:jA Tryz.prog dZ pl rows Ds 111 5=true:=by kernel_rfl
end C
end Go.Proofs.YtcpfjpcdcafjmaaGreatDoor
