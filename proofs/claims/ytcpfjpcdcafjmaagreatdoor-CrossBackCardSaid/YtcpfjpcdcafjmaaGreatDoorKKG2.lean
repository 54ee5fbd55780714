/- The rows of definitions are as they say: the ways of the bodies, run by the kernel. -/
import Derived.Test.YtcpfjpcdcafjmaaGreatDoorKKD
namespace Go.Proofs.YtcpfjpcdcafjmaaGreatDoor
open Go Go.aO
set_option maxRecDepth 100000
set_option linter.unusedVariables false
set_option linter.unusedSimpArgs false
namespace K
theorem g1:jJ Tryz.prog fF pl rows Ds 1 1=true:=by kernel_rfl
theorem g34:jJ Tryz.prog fF pl rows Ds 34 6=true:=by kernel_rfl
theorem g40:jJ Tryz.prog fF pl rows Ds 40 6=true:=by kernel_rfl
theorem g78:jJ Tryz.prog fF pl rows Ds 78 13=true:=by kernel_rfl
theorem g94:jJ Tryz.prog fF pl rows Ds 94 2=true:=by kernel_rfl
theorem ai5:jJ Tryz.prog fF pl rows Ds 131 1=true:=by kernel_rfl
theorem ai7:jJ Tryz.prog fF pl rows Ds 145 4=true:=by kernel_rfl
end K
end Go.Proofs.YtcpfjpcdcafjmaaGreatDoor
