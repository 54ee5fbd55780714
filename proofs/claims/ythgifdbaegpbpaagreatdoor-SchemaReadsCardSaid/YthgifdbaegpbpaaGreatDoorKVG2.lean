/- The rows of definitions are as they say: the ways of the bodies, run by the kernel. -/
import Derived.Test.YthgifdbaegpbpaaGreatDoorKVD
namespace Go.Proofs.YthgifdbaegpbpaaGreatDoor
open Go Go.aK
set_option maxRecDepth 100000
set_option linter.unusedVariables false
set_option linter.unusedSimpArgs false
namespace V
theorem g4:iP Tryz.prog dW pl rows Ds 4 6=true:=by kernel_rfl
theorem g37:iP Tryz.prog dW pl rows Ds 37 11=true:=by kernel_rfl
theorem ahn:iP Tryz.prog dW pl rows Ds 109 5=true:=by kernel_rfl
theorem ahu:iP Tryz.prog dW pl rows Ds 143 4=true:=by kernel_rfl
theorem ahv:iP Tryz.prog dW pl rows Ds 147 13=true:=by kernel_rfl
theorem ahw:iP Tryz.prog dW pl rows Ds 160 4=true:=by kernel_rfl
theorem ahx:iP Tryz.prog dW pl rows Ds 164 1=true:=by kernel_rfl
theorem ahz:iP Tryz.prog dW pl rows Ds 175 7=true:=by kernel_rfl
end V
end Go.Proofs.YthgifdbaegpbpaaGreatDoor
