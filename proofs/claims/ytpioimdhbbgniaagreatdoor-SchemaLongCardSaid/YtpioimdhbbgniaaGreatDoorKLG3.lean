/- The rows of definitions are as they say: the ways of the bodies, run by the kernel. -/
import Derived.Test.YtpioimdhbbgniaaGreatDoorKLD
namespace Go.Proofs.YtpioimdhbbgniaaGreatDoor
open Go Go.aJ
set_option maxRecDepth 100000
set_option linter.unusedVariables false
set_option linter.unusedSimpArgs false
namespace L
theorem g23:mX Tryz.prog fU pl rows Ds 23 10=true:=by kernel_rfl
theorem g33:mX Tryz.prog fU pl rows Ds 33 22=true:=by kernel_rfl
theorem g70:mX Tryz.prog fU pl rows Ds 70 13=true:=by kernel_rfl
theorem g84:mX Tryz.prog fU pl rows Ds 84 2=true:=by kernel_rfl
theorem agd:mX Tryz.prog fU pl rows Ds 102 4=true:=by kernel_rfl
end L
end Go.Proofs.YtpioimdhbbgniaaGreatDoor
