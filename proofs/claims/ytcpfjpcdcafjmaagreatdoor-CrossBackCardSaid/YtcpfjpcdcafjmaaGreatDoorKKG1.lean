/- The rows of definitions are as they say: the ways of the bodies, run by the kernel. -/
import Derived.Test.YtcpfjpcdcafjmaaGreatDoorKKD
namespace Go.Proofs.YtcpfjpcdcafjmaaGreatDoor
open Go Go.aO
set_option maxRecDepth 100000
set_option linter.unusedVariables false
set_option linter.unusedSimpArgs false
namespace K
theorem g0:jJ Tryz.prog fF pl rows Ds 0 1=true:=by kernel_rfl
theorem g15:jJ Tryz.prog fF pl rows Ds 15 14=true:=by kernel_rfl
theorem g47:jJ Tryz.prog fF pl rows Ds 47 16=true:=by kernel_rfl
theorem g63:jJ Tryz.prog fF pl rows Ds 63 14=true:=by kernel_rfl
theorem ai0:jJ Tryz.prog fF pl rows Ds 112 4=true:=by kernel_rfl
theorem ai2:jJ Tryz.prog fF pl rows Ds 117 8=true:=by kernel_rfl
theorem ai8:jJ Tryz.prog fF pl rows Ds 149 1=true:=by kernel_rfl
end K
end Go.Proofs.YtcpfjpcdcafjmaaGreatDoor
