/- The rows of definitions are as they say: the ways of the bodies, run by the kernel. -/
import Derived.Test.YtjglbndncdkhhaaGreatDoorKUD
namespace Go.Proofs.YtjglbndncdkhhaaGreatDoor
open Go Go.aN
set_option maxRecDepth 100000
set_option linter.unusedVariables false
set_option linter.unusedSimpArgs false
namespace U
theorem g32:jW Tryz.prog fQ pl rows Ds 32 2=true:=by kernel_rfl
theorem g93:jW Tryz.prog fQ pl rows Ds 93 2=true:=by kernel_rfl
theorem aiz:jW Tryz.prog fQ pl rows Ds 102 9=true:=by kernel_rfl
theorem aiB:jW Tryz.prog fQ pl rows Ds 115 1=true:=by kernel_rfl
end U
end Go.Proofs.YtjglbndncdkhhaaGreatDoor
