/- The rows of definitions are as they say: the ways of the bodies, run by the kernel. -/
import Derived.Test.YtehcokoigbiciaaGreatDoorKWD
namespace Go.Proofs.YtehcokoigbiciaaGreatDoor
open Go Go.Abs
set_option maxRecDepth 100000
set_option linter.unusedVariables false
set_option linter.unusedSimpArgs false
namespace W
theorem g12 : chkSeg Tryz.prog tabsL pl rows Ds 12 8 = true := by kernel_rfl
theorem g20 : chkSeg Tryz.prog tabsL pl rows Ds 20 12 = true := by kernel_rfl
theorem g32 : chkSeg Tryz.prog tabsL pl rows Ds 32 5 = true := by kernel_rfl
end W
end Go.Proofs.YtehcokoigbiciaaGreatDoor
