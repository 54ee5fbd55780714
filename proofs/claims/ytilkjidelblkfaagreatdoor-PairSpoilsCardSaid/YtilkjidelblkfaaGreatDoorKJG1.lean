/- The rows of definitions are as they say: the ways of the bodies, run by the kernel. -/
import Derived.Test.YtilkjidelblkfaaGreatDoorKJD
namespace Go.Proofs.YtilkjidelblkfaaGreatDoor
open Go Go.Abs
set_option maxRecDepth 100000
set_option linter.unusedVariables false
set_option linter.unusedSimpArgs false
namespace J
theorem g39 : chkSeg Tryz.prog tabsL pl rows Ds 39 8 = true := by kernel_rfl
theorem g47 : chkSeg Tryz.prog tabsL pl rows Ds 47 27 = true := by kernel_rfl
theorem g78 : chkSeg Tryz.prog tabsL pl rows Ds 78 1 = true := by kernel_rfl
theorem g92 : chkSeg Tryz.prog tabsL pl rows Ds 92 15 = true := by kernel_rfl
theorem g24 : chkSeg Tryz.prog tabsL pl rows Ds 24 2 = true := by kernel_rfl
theorem g38 : chkSeg Tryz.prog tabsL pl rows Ds 38 1 = true := by kernel_rfl
theorem g74 : chkSeg Tryz.prog tabsL pl rows Ds 74 4 = true := by kernel_rfl
theorem g107 : chkSeg Tryz.prog tabsL pl rows Ds 107 4 = true := by kernel_rfl
theorem g111 : chkSeg Tryz.prog tabsL pl rows Ds 111 16 = true := by kernel_rfl
theorem g133 : chkSeg Tryz.prog tabsL pl rows Ds 133 12 = true := by kernel_rfl
end J
end Go.Proofs.YtilkjidelblkfaaGreatDoor
