/- The rows of definitions are as they say: the ways of the bodies, run by the kernel. -/
import Derived.Test.YthgifdbaegpbpaaGreatDoorKKD
namespace Go.Proofs.YthgifdbaegpbpaaGreatDoor
open Go Go.aN
set_option maxRecDepth 100000
set_option linter.unusedVariables false
set_option linter.unusedSimpArgs false
namespace K
theorem g24:jL Tryz.prog fG pl rows Ds 24 2=true:=by kernel_rfl
theorem g39:jL Tryz.prog fG pl rows Ds 39 10=true:=by kernel_rfl
theorem g78:jL Tryz.prog fG pl rows Ds 78 1=true:=by kernel_rfl
theorem g95:jL Tryz.prog fG pl rows Ds 95 7=true:=by kernel_rfl
theorem ahS:jL Tryz.prog fG pl rows Ds 111 4=true:=by kernel_rfl
theorem ahY:jL Tryz.prog fG pl rows Ds 130 9=true:=by kernel_rfl
end K
end Go.Proofs.YthgifdbaegpbpaaGreatDoor
