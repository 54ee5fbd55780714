/- The rows of definitions are as they say: the ways of the bodies, run by the kernel. -/
import Derived.Test.YtilkjidelblkfaaGreatDoorKMD
namespace Go.Proofs.YtilkjidelblkfaaGreatDoor
open Go Go.aJ
set_option maxRecDepth 100000
set_option linter.unusedVariables false
set_option linter.unusedSimpArgs false
namespace M
theorem g11:jd Tryz.prog fB pl rows Ds 11 17=true:=by kernel_rfl
theorem g60:jd Tryz.prog fB pl rows Ds 60 6=true:=by kernel_rfl
theorem g67:jd Tryz.prog fB pl rows Ds 67 16=true:=by kernel_rfl
theorem g97:jd Tryz.prog fB pl rows Ds 97 1=true:=by kernel_rfl
theorem g98:jd Tryz.prog fB pl rows Ds 98 13=true:=by kernel_rfl
theorem akT:jd Tryz.prog fB pl rows Ds 135 3=true:=by kernel_rfl
theorem akW:jd Tryz.prog fB pl rows Ds 147 9=true:=by kernel_rfl
theorem akZ:jd Tryz.prog fB pl rows Ds 161 14=true:=by kernel_rfl
theorem g0:jd Tryz.prog fB pl rows Ds 0 1=true:=by kernel_rfl
theorem g37:jd Tryz.prog fB pl rows Ds 37 9=true:=by kernel_rfl
theorem g46:jd Tryz.prog fB pl rows Ds 46 6=true:=by kernel_rfl
theorem g66:jd Tryz.prog fB pl rows Ds 66 1=true:=by kernel_rfl
theorem akR:jd Tryz.prog fB pl rows Ds 119 7=true:=by kernel_rfl
theorem akV:jd Tryz.prog fB pl rows Ds 139 8=true:=by kernel_rfl
theorem akY:jd Tryz.prog fB pl rows Ds 160 1=true:=by kernel_rfl
theorem ak1:jd Tryz.prog fB pl rows Ds 182 1=true:=by kernel_rfl
end M
end Go.Proofs.YtilkjidelblkfaaGreatDoor
