/- The rows of definitions are as they say: the ways of the bodies, run by the kernel. -/
import Derived.Test.YtcnadokjijncjaaGreatDoorKVD
namespace Go.Proofs.YtcnadokjijncjaaGreatDoor
open Go Go.Abs
set_option maxRecDepth 100000
set_option linter.unusedVariables false
set_option linter.unusedSimpArgs false
namespace V
theorem g12 : chkSeg Tryz.prog tabsL pl rows Ds 12 8 = true := by kernel_rfl
theorem g20 : chkSeg Tryz.prog tabsL pl rows Ds 20 5 = true := by kernel_rfl
theorem g30 : chkSeg Tryz.prog tabsL pl rows Ds 30 7 = true := by kernel_rfl
end V
end Go.Proofs.YtcnadokjijncjaaGreatDoor
