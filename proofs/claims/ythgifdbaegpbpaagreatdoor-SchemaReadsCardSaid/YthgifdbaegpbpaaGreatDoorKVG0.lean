/- The rows of definitions are as they say: the ways of the bodies, run by the kernel. -/
import Derived.Test.YthgifdbaegpbpaaGreatDoorKVD
namespace Go.Proofs.YthgifdbaegpbpaaGreatDoor
open Go Go.aK
set_option maxRecDepth 100000
set_option linter.unusedVariables false
set_option linter.unusedSimpArgs false
namespace V
theorem g2:iP Tryz.prog dW pl rows Ds 2 2=true:=by kernel_rfl
theorem g36:iP Tryz.prog dW pl rows Ds 36 1=true:=by kernel_rfl
theorem g54:iP Tryz.prog dW pl rows Ds 54 3=true:=by kernel_rfl
theorem g95:iP Tryz.prog dW pl rows Ds 95 4=true:=by kernel_rfl
theorem ahq:iP Tryz.prog dW pl rows Ds 121 10=true:=by kernel_rfl
theorem aht:iP Tryz.prog dW pl rows Ds 140 3=true:=by kernel_rfl
end V
end Go.Proofs.YthgifdbaegpbpaaGreatDoor
