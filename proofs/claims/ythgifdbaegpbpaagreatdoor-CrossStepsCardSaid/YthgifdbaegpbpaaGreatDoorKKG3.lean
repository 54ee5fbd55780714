/- The rows of definitions are as they say: the ways of the bodies, run by the kernel. -/
import Derived.Test.YthgifdbaegpbpaaGreatDoorKKD
namespace Go.Proofs.YthgifdbaegpbpaaGreatDoor
open Go Go.aN
set_option maxRecDepth 100000
set_option linter.unusedVariables false
set_option linter.unusedSimpArgs false
namespace K
theorem g0:jL Tryz.prog fG pl rows Ds 0 2=true:=by kernel_rfl
theorem g26:jL Tryz.prog fG pl rows Ds 26 6=true:=by kernel_rfl
theorem g32:jL Tryz.prog fG pl rows Ds 32 6=true:=by kernel_rfl
theorem g92:jL Tryz.prog fG pl rows Ds 92 1=true:=by kernel_rfl
theorem ahR:jL Tryz.prog fG pl rows Ds 102 9=true:=by kernel_rfl
theorem ahU:jL Tryz.prog fG pl rows Ds 116 8=true:=by kernel_rfl
theorem ahX:jL Tryz.prog fG pl rows Ds 129 1=true:=by kernel_rfl
end K
end Go.Proofs.YthgifdbaegpbpaaGreatDoor
