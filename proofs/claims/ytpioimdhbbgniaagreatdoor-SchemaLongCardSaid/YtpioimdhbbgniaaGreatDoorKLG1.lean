/- The rows of definitions are as they say: the ways of the bodies, run by the kernel. -/
import Derived.Test.YtpioimdhbbgniaaGreatDoorKLD
namespace Go.Proofs.YtpioimdhbbgniaaGreatDoor
open Go Go.aJ
set_option maxRecDepth 100000
set_option linter.unusedVariables false
set_option linter.unusedSimpArgs false
namespace L
theorem g7:mX Tryz.prog fU pl rows Ds 7 2=true:=by kernel_rfl
theorem g55:mX Tryz.prog fU pl rows Ds 55 14=true:=by kernel_rfl
theorem g69:mX Tryz.prog fU pl rows Ds 69 1=true:=by kernel_rfl
theorem g83:mX Tryz.prog fU pl rows Ds 83 1=true:=by kernel_rfl
theorem g86:mX Tryz.prog fU pl rows Ds 86 7=true:=by kernel_rfl
end L
end Go.Proofs.YtpioimdhbbgniaaGreatDoor
