/- The rows of definitions are as they say: the ways of the bodies, run by the kernel. -/
import Derived.Test.YtnlegpmfkopalaaGreatDoorKSD
namespace Go.Proofs.YtnlegpmfkopalaaGreatDoor
open Go Go.aN
set_option maxRecDepth 100000
set_option linter.unusedVariables false
set_option linter.unusedSimpArgs false
namespace S
theorem g37:jK Tryz.prog fF pl rows Ds 37 10=true:=by kernel_rfl
theorem g91:jK Tryz.prog fF pl rows Ds 91 2=true:=by kernel_rfl
theorem ai0:jK Tryz.prog fF pl rows Ds 100 9=true:=by kernel_rfl
theorem ai1:jK Tryz.prog fF pl rows Ds 109 4=true:=by kernel_rfl
theorem ai2:jK Tryz.prog fF pl rows Ds 113 1=true:=by kernel_rfl
theorem aja:jK Tryz.prog fF pl rows Ds 147 10=true:=by kernel_rfl
end S
end Go.Proofs.YtnlegpmfkopalaaGreatDoor
