/- The rows of definitions are as they say: the ways of the bodies, run by the kernel. -/
import Derived.Test.YtehcokoigbiciaaGreatDoorKWD
namespace Go.Proofs.YtehcokoigbiciaaGreatDoor
open Go Go.Abs
set_option maxRecDepth 100000
set_option linter.unusedVariables false
set_option linter.unusedSimpArgs false
namespace W
theorem g0 : chkSeg Tryz.prog tabsL pl rows Ds 0 12 = true := by kernel_rfl
theorem g57 : chkSeg Tryz.prog tabsL pl rows Ds 57 10 = true := by kernel_rfl
end W
end Go.Proofs.YtehcokoigbiciaaGreatDoor
