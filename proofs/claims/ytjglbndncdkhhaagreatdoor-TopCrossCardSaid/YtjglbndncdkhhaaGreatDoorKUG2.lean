/- The rows of definitions are as they say: the ways of the bodies, run by the kernel. -/
import Derived.Test.YtjglbndncdkhhaaGreatDoorKUD
namespace Go.Proofs.YtjglbndncdkhhaaGreatDoor
open Go Go.aN
set_option maxRecDepth 100000
set_option linter.unusedVariables false
set_option linter.unusedSimpArgs false
namespace U
theorem g0:jW Tryz.prog fQ pl rows Ds 0 7=true:=by kernel_rfl
theorem g34:jW Tryz.prog fQ pl rows Ds 34 6=true:=by kernel_rfl
theorem g77:jW Tryz.prog fQ pl rows Ds 77 1=true:=by kernel_rfl
theorem g95:jW Tryz.prog fQ pl rows Ds 95 7=true:=by kernel_rfl
theorem aiA:jW Tryz.prog fQ pl rows Ds 111 4=true:=by kernel_rfl
theorem aiC:jW Tryz.prog fQ pl rows Ds 116 8=true:=by kernel_rfl
theorem aiH:jW Tryz.prog fQ pl rows Ds 144 1=true:=by kernel_rfl
theorem g46:jW Tryz.prog fQ pl rows Ds 46 1=true:=by kernel_rfl
theorem g47:jW Tryz.prog fQ pl rows Ds 47 16=true:=by kernel_rfl
theorem g78:jW Tryz.prog fQ pl rows Ds 78 13=true:=by kernel_rfl
theorem aiD:jW Tryz.prog fQ pl rows Ds 124 7=true:=by kernel_rfl
theorem aiE:jW Tryz.prog fQ pl rows Ds 131 3=true:=by kernel_rfl
theorem aiG:jW Tryz.prog fQ pl rows Ds 135 9=true:=by kernel_rfl
end U
end Go.Proofs.YtjglbndncdkhhaaGreatDoor
