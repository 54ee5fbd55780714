/- The rows of definitions are as they say: the ways of the bodies, run by the kernel. -/
import Derived.Test.YthgifdbaegpbpaaGreatDoorKVD
namespace Go.Proofs.YthgifdbaegpbpaaGreatDoor
open Go Go.aK
set_option maxRecDepth 100000
set_option linter.unusedVariables false
set_option linter.unusedSimpArgs false
namespace V
theorem g0:iP Tryz.prog dW pl rows Ds 0 2=true:=by kernel_rfl
theorem g15:iP Tryz.prog dW pl rows Ds 15 14=true:=by kernel_rfl
theorem g29:iP Tryz.prog dW pl rows Ds 29 7=true:=by kernel_rfl
theorem g48:iP Tryz.prog dW pl rows Ds 48 6=true:=by kernel_rfl
theorem g57:iP Tryz.prog dW pl rows Ds 57 1=true:=by kernel_rfl
theorem g99:iP Tryz.prog dW pl rows Ds 99 1=true:=by kernel_rfl
theorem ahm:iP Tryz.prog dW pl rows Ds 106 3=true:=by kernel_rfl
theorem ahr:iP Tryz.prog dW pl rows Ds 131 8=true:=by kernel_rfl
end V
end Go.Proofs.YthgifdbaegpbpaaGreatDoor
