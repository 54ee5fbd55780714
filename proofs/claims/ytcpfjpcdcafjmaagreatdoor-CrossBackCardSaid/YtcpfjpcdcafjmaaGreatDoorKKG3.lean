/- The rows of definitions are as they say: the ways of the bodies, run by the kernel. -/
import Derived.Test.YtcpfjpcdcafjmaaGreatDoorKKD
namespace Go.Proofs.YtcpfjpcdcafjmaaGreatDoor
open Go Go.aO
set_option maxRecDepth 100000
set_option linter.unusedVariables false
set_option linter.unusedSimpArgs false
namespace K
theorem g29:jJ Tryz.prog fF pl rows Ds 29 3=true:=by kernel_rfl
theorem g46:jJ Tryz.prog fF pl rows Ds 46 1=true:=by kernel_rfl
theorem g77:jJ Tryz.prog fF pl rows Ds 77 1=true:=by kernel_rfl
theorem g91:jJ Tryz.prog fF pl rows Ds 91 3=true:=by kernel_rfl
theorem g96:jJ Tryz.prog fF pl rows Ds 96 7=true:=by kernel_rfl
theorem ai3:jJ Tryz.prog fF pl rows Ds 125 4=true:=by kernel_rfl
theorem ai6:jJ Tryz.prog fF pl rows Ds 132 13=true:=by kernel_rfl
end K
end Go.Proofs.YtcpfjpcdcafjmaaGreatDoor
