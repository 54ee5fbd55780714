/- The rows of definitions are as they say: the ways of the bodies, run by the kernel. -/
import Derived.Test.YthgifdbaegpbpaaGreatDoorKKD
namespace Go.Proofs.YthgifdbaegpbpaaGreatDoor
open Go Go.aN
set_option maxRecDepth 100000
set_option linter.unusedVariables false
set_option linter.unusedSimpArgs false
namespace K
theorem g2:jL Tryz.prog fG pl rows Ds 2 13=true:=by kernel_rfl
theorem g15:jL Tryz.prog fG pl rows Ds 15 7=true:=by kernel_rfl
theorem g22:jL Tryz.prog fG pl rows Ds 22 2=true:=by kernel_rfl
theorem g38:jL Tryz.prog fG pl rows Ds 38 1=true:=by kernel_rfl
theorem g49:jL Tryz.prog fG pl rows Ds 49 25=true:=by kernel_rfl
theorem ahV:jL Tryz.prog fG pl rows Ds 124 4=true:=by kernel_rfl
theorem ahW:jL Tryz.prog fG pl rows Ds 128 1=true:=by kernel_rfl
end K
end Go.Proofs.YthgifdbaegpbpaaGreatDoor
