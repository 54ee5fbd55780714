/- The rows of definitions are as they say: the ways of the bodies, run by the kernel. -/
import Derived.Test.YtehcokoigbiciaaGreatDoorKWD
namespace Go.Proofs.YtehcokoigbiciaaGreatDoor
open Go Go.Abs
set_option maxRecDepth 100000
set_option linter.unusedVariables false
set_option linter.unusedSimpArgs false
namespace W
theorem g38 : chkSeg Tryz.prog tabsL pl rows Ds 38 5 = true := by kernel_rfl
theorem g43 : chkSeg Tryz.prog tabsL pl rows Ds 43 7 = true := by kernel_rfl
theorem g67 : chkSeg Tryz.prog tabsL pl rows Ds 67 8 = true := by kernel_rfl
end W
end Go.Proofs.YtehcokoigbiciaaGreatDoor
