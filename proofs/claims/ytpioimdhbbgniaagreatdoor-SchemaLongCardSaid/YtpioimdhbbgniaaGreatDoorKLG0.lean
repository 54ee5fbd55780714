/- The rows of definitions are as they say: the ways of the bodies, run by the kernel. -/
import Derived.Test.YtpioimdhbbgniaaGreatDoorKLD
namespace Go.Proofs.YtpioimdhbbgniaaGreatDoor
open Go Go.aJ
set_option maxRecDepth 100000
set_option linter.unusedVariables false
set_option linter.unusedSimpArgs false
namespace L
theorem g0:mX Tryz.prog fU pl rows Ds 0 7=true:=by kernel_rfl
theorem agf:mX Tryz.prog fU pl rows Ds 106 1=true:=by kernel_rfl
theorem agi:mX Tryz.prog fU pl rows Ds 115 3=true:=by kernel_rfl
end L
end Go.Proofs.YtpioimdhbbgniaaGreatDoor
