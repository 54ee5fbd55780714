/- The rows of definitions are as they say: the ways of the bodies, run by the kernel. -/
import Derived.Test.YtcpfjpcdcafjmaaGreatDoorKKD
namespace Go.Proofs.YtcpfjpcdcafjmaaGreatDoor
open Go Go.aO
set_option maxRecDepth 100000
set_option linter.unusedVariables false
set_option linter.unusedSimpArgs false
namespace K
theorem g2:jJ Tryz.prog fF pl rows Ds 2 13=true:=by kernel_rfl
theorem g32:jJ Tryz.prog fF pl rows Ds 32 2=true:=by kernel_rfl
theorem aiZ:jJ Tryz.prog fF pl rows Ds 103 9=true:=by kernel_rfl
theorem ai1:jJ Tryz.prog fF pl rows Ds 116 1=true:=by kernel_rfl
theorem ai4:jJ Tryz.prog fF pl rows Ds 129 2=true:=by kernel_rfl
end K
end Go.Proofs.YtcpfjpcdcafjmaaGreatDoor
