/- The rows of definitions are as they say: the ways of the bodies, run by the kernel. -/
import Derived.Test.YthgifdbaegpbpaaGreatDoorKKD
namespace Go.Proofs.YthgifdbaegpbpaaGreatDoor
open Go Go.aN
set_option maxRecDepth 100000
set_option linter.unusedVariables false
set_option linter.unusedSimpArgs false
namespace K
theorem g74:jL Tryz.prog fG pl rows Ds 74 4=true:=by kernel_rfl
theorem g79:jL Tryz.prog fG pl rows Ds 79 13=true:=by kernel_rfl
theorem g93:jL Tryz.prog fG pl rows Ds 93 2=true:=by kernel_rfl
theorem ahT:jL Tryz.prog fG pl rows Ds 115 1=true:=by kernel_rfl
end K
end Go.Proofs.YthgifdbaegpbpaaGreatDoor
