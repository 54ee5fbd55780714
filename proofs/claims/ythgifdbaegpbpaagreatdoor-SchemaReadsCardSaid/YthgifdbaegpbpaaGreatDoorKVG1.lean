/- The rows of definitions are as they say: the ways of the bodies, run by the kernel. -/
import Derived.Test.YthgifdbaegpbpaaGreatDoorKVD
namespace Go.Proofs.YthgifdbaegpbpaaGreatDoor
open Go Go.aK
set_option maxRecDepth 100000
set_option linter.unusedVariables false
set_option linter.unusedSimpArgs false
namespace V
theorem g10:iP Tryz.prog dW pl rows Ds 10 5=true:=by kernel_rfl
theorem g58:iP Tryz.prog dW pl rows Ds 58 8=true:=by kernel_rfl
theorem g66:iP Tryz.prog dW pl rows Ds 66 29=true:=by kernel_rfl
theorem ahl:iP Tryz.prog dW pl rows Ds 100 6=true:=by kernel_rfl
theorem aho:iP Tryz.prog dW pl rows Ds 114 5=true:=by kernel_rfl
theorem ahp:iP Tryz.prog dW pl rows Ds 119 2=true:=by kernel_rfl
theorem ahs:iP Tryz.prog dW pl rows Ds 139 1=true:=by kernel_rfl
theorem ahy:iP Tryz.prog dW pl rows Ds 165 10=true:=by kernel_rfl
end V
end Go.Proofs.YthgifdbaegpbpaaGreatDoor
