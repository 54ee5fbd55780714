/- The rows of definitions are as they say: the ways of the bodies, run by the kernel. -/
import Derived.Test.YtdpjiaedcmagdaaGreatDoorKQD
namespace Go.Proofs.YtdpjiaedcmagdaaGreatDoor
open Go Go.Abs
set_option maxRecDepth 100000
set_option linter.unusedVariables false
set_option linter.unusedSimpArgs false
namespace Q
theorem g39 : chkSeg Tryz.prog tabsL pl rows Ds 39 1 = true := by kernel_rfl
theorem g0 : chkSeg Tryz.prog tabsL pl rows Ds 0 1 = true := by kernel_rfl
theorem g40 : chkSeg Tryz.prog tabsL pl rows Ds 40 6 = true := by kernel_rfl
theorem g1 : chkSeg Tryz.prog tabsL pl rows Ds 1 12 = true := by kernel_rfl
theorem g15 : chkSeg Tryz.prog tabsL pl rows Ds 15 10 = true := by kernel_rfl
theorem g26 : chkSeg Tryz.prog tabsL pl rows Ds 26 9 = true := by kernel_rfl
theorem g13 : chkSeg Tryz.prog tabsL pl rows Ds 13 2 = true := by kernel_rfl
theorem g25 : chkSeg Tryz.prog tabsL pl rows Ds 25 1 = true := by kernel_rfl
theorem g35 : chkSeg Tryz.prog tabsL pl rows Ds 35 4 = true := by kernel_rfl
end Q
end Go.Proofs.YtdpjiaedcmagdaaGreatDoor
