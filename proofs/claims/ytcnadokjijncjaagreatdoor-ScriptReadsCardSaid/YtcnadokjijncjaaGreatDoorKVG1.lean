/- The rows of definitions are as they say: the ways of the bodies, run by the kernel. -/
import Derived.Test.YtcnadokjijncjaaGreatDoorKVD
namespace Go.Proofs.YtcnadokjijncjaaGreatDoor
open Go Go.Abs
set_option maxRecDepth 100000
set_option linter.unusedVariables false
set_option linter.unusedSimpArgs false
namespace V
theorem g37 : chkSeg Tryz.prog tabsL pl rows Ds 37 2 = true := by kernel_rfl
theorem g39 : chkSeg Tryz.prog tabsL pl rows Ds 39 1 = true := by kernel_rfl
end V
end Go.Proofs.YtcnadokjijncjaaGreatDoor
