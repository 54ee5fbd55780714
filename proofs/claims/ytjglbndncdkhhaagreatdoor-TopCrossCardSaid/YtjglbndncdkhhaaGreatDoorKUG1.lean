/- The rows of definitions are as they say: the ways of the bodies, run by the kernel. -/
import Derived.Test.YtjglbndncdkhhaaGreatDoorKUD
namespace Go.Proofs.YtjglbndncdkhhaaGreatDoor
open Go Go.aN
set_option maxRecDepth 100000
set_option linter.unusedVariables false
set_option linter.unusedSimpArgs false
namespace U
theorem g7:jW Tryz.prog fQ pl rows Ds 7 14=true:=by kernel_rfl
theorem g21:jW Tryz.prog fQ pl rows Ds 21 11=true:=by kernel_rfl
theorem g40:jW Tryz.prog fQ pl rows Ds 40 6=true:=by kernel_rfl
theorem g63:jW Tryz.prog fQ pl rows Ds 63 14=true:=by kernel_rfl
theorem g91:jW Tryz.prog fQ pl rows Ds 91 2=true:=by kernel_rfl
theorem aiF:jW Tryz.prog fQ pl rows Ds 134 1=true:=by kernel_rfl
end U
end Go.Proofs.YtjglbndncdkhhaaGreatDoor
