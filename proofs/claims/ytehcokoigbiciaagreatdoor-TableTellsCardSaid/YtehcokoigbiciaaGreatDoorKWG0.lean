/- The rows of definitions are as they say: the ways of the bodies, run by the kernel. -/
import Derived.Test.YtehcokoigbiciaaGreatDoorKWD
namespace Go.Proofs.YtehcokoigbiciaaGreatDoor
open Go Go.Abs
set_option maxRecDepth 100000
set_option linter.unusedVariables false
set_option linter.unusedSimpArgs false
namespace W
theorem g37 : chkSeg Tryz.prog tabsL pl rows Ds 37 1 = true := by kernel_rfl
theorem g50 : chkSeg Tryz.prog tabsL pl rows Ds 50 7 = true := by kernel_rfl
end W
end Go.Proofs.YtehcokoigbiciaaGreatDoor
