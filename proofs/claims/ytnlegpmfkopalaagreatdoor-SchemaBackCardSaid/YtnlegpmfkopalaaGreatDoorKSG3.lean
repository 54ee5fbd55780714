/- The rows of definitions are as they say: the ways of the bodies, run by the kernel. -/
import Derived.Test.YtnlegpmfkopalaaGreatDoorKSD
namespace Go.Proofs.YtnlegpmfkopalaaGreatDoor
open Go Go.aN
set_option maxRecDepth 100000
set_option linter.unusedVariables false
set_option linter.unusedSimpArgs false
namespace S
theorem g2:jK Tryz.prog fF pl rows Ds 2 13=true:=by kernel_rfl
theorem g15:jK Tryz.prog fF pl rows Ds 15 7=true:=by kernel_rfl
theorem g22:jK Tryz.prog fF pl rows Ds 22 2=true:=by kernel_rfl
theorem g24:jK Tryz.prog fF pl rows Ds 24 6=true:=by kernel_rfl
theorem g30:jK Tryz.prog fF pl rows Ds 30 6=true:=by kernel_rfl
theorem g36:jK Tryz.prog fF pl rows Ds 36 1=true:=by kernel_rfl
theorem ai3:jK Tryz.prog fF pl rows Ds 114 8=true:=by kernel_rfl
theorem ai8:jK Tryz.prog fF pl rows Ds 133 1=true:=by kernel_rfl
end S
end Go.Proofs.YtnlegpmfkopalaaGreatDoor
