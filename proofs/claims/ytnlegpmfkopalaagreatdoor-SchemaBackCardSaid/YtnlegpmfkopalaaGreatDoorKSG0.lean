/- The rows of definitions are as they say: the ways of the bodies, run by the kernel. -/
import Derived.Test.YtnlegpmfkopalaaGreatDoorKSD
namespace Go.Proofs.YtnlegpmfkopalaaGreatDoor
open Go Go.aN
set_option maxRecDepth 100000
set_option linter.unusedVariables false
set_option linter.unusedSimpArgs false
namespace S
theorem g72:jK Tryz.prog fF pl rows Ds 72 4=true:=by kernel_rfl
theorem g90:jK Tryz.prog fF pl rows Ds 90 1=true:=by kernel_rfl
theorem ai6:jK Tryz.prog fF pl rows Ds 131 1=true:=by kernel_rfl
end S
end Go.Proofs.YtnlegpmfkopalaaGreatDoor
