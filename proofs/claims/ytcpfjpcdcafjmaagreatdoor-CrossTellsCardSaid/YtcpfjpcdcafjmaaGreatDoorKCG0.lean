/- The rows of definitions are as they say: the ways of the bodies, run by the kernel. -/
import Derived.Test.YtcpfjpcdcafjmaaGreatDoorKCD
namespace Go.Proofs.YtcpfjpcdcafjmaaGreatDoor
open Go Go.aN
set_option maxRecDepth 100000
set_option linter.unusedVariables false
set_option linter.unusedSimpArgs false
namespace C
theorem g38:jA Tryz.prog dZ pl rows Ds 38 5=true:=by kernel_rfl
theorem g45:jA Tryz.prog dZ pl rows Ds 45 1=true:=by kernel_rfl
theorem g53:jA Tryz.prog dZ pl rows Ds 53 5=true:=by kernel_rfl
theorem g91:jA Tryz.prog dZ pl rows Ds 91 2=true:=by kernel_rfl
theorem agn:jA Tryz.prog dZ pl rows Ds 116 5=true:=by kernel_rfl
theorem agp:jA Tryz.prog dZ pl rows Ds 121 7=true:=by kernel_rfl
end C
end Go.Proofs.YtcpfjpcdcafjmaaGreatDoor
