/- The rows of definitions are as they say: the ways of the bodies, run by the kernel. -/
import Derived.Test.YtilkjidelblkfaaGreatDoorKJD
namespace Go.Proofs.YtilkjidelblkfaaGreatDoor
open Go Go.Abs
set_option maxRecDepth 100000
set_option linter.unusedVariables false
set_option linter.unusedSimpArgs false
namespace J
theorem g12 : chkSeg Tryz.prog tabsL pl rows Ds 12 1 = true := by kernel_rfl
theorem g2 : chkSeg Tryz.prog tabsL pl rows Ds 2 1 = true := by kernel_rfl
theorem g3 : chkSeg Tryz.prog tabsL pl rows Ds 3 9 = true := by kernel_rfl
theorem g26 : chkSeg Tryz.prog tabsL pl rows Ds 26 6 = true := by kernel_rfl
theorem g79 : chkSeg Tryz.prog tabsL pl rows Ds 79 13 = true := by kernel_rfl
theorem g127 : chkSeg Tryz.prog tabsL pl rows Ds 127 6 = true := by kernel_rfl
theorem g145 : chkSeg Tryz.prog tabsL pl rows Ds 145 3 = true := by kernel_rfl
theorem g0 : chkSeg Tryz.prog tabsL pl rows Ds 0 2 = true := by kernel_rfl
theorem g13 : chkSeg Tryz.prog tabsL pl rows Ds 13 11 = true := by kernel_rfl
theorem g32 : chkSeg Tryz.prog tabsL pl rows Ds 32 6 = true := by kernel_rfl
end J
end Go.Proofs.YtilkjidelblkfaaGreatDoor
