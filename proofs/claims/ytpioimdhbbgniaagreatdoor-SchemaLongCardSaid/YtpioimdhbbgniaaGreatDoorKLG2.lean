/- The rows of definitions are as they say: the ways of the bodies, run by the kernel. -/
import Derived.Test.YtpioimdhbbgniaaGreatDoorKLD
namespace Go.Proofs.YtpioimdhbbgniaaGreatDoor
open Go Go.aJ
set_option maxRecDepth 100000
set_option linter.unusedVariables false
set_option linter.unusedSimpArgs false
namespace L
theorem g9:mX Tryz.prog fU pl rows Ds 9 5=true:=by kernel_rfl
theorem g14:mX Tryz.prog fU pl rows Ds 14 8=true:=by kernel_rfl
theorem g22:mX Tryz.prog fU pl rows Ds 22 1=true:=by kernel_rfl
theorem g93:mX Tryz.prog fU pl rows Ds 93 9=true:=by kernel_rfl
theorem agh:mX Tryz.prog fU pl rows Ds 107 8=true:=by kernel_rfl
end L
end Go.Proofs.YtpioimdhbbgniaaGreatDoor
