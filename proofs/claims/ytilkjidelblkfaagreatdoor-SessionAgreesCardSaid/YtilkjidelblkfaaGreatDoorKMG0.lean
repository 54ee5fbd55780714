/- The rows of definitions are as they say: the ways of the bodies, run by the kernel. -/
import Derived.Test.YtilkjidelblkfaaGreatDoorKMD
namespace Go.Proofs.YtilkjidelblkfaaGreatDoor
open Go Go.aJ
set_option maxRecDepth 100000
set_option linter.unusedVariables false
set_option linter.unusedSimpArgs false
namespace M
theorem g2:jd Tryz.prog fB pl rows Ds 2 6=true:=by kernel_rfl
theorem g52:jd Tryz.prog fB pl rows Ds 52 2=true:=by kernel_rfl
theorem akQ:jd Tryz.prog fB pl rows Ds 117 2=true:=by kernel_rfl
theorem akS:jd Tryz.prog fB pl rows Ds 126 9=true:=by kernel_rfl
theorem akU:jd Tryz.prog fB pl rows Ds 138 1=true:=by kernel_rfl
theorem ak2:jd Tryz.prog fB pl rows Ds 183 7=true:=by kernel_rfl
theorem g1:jd Tryz.prog fB pl rows Ds 1 1=true:=by kernel_rfl
theorem g8:jd Tryz.prog fB pl rows Ds 8 3=true:=by kernel_rfl
theorem g28:jd Tryz.prog fB pl rows Ds 28 9=true:=by kernel_rfl
theorem g54:jd Tryz.prog fB pl rows Ds 54 6=true:=by kernel_rfl
theorem g83:jd Tryz.prog fB pl rows Ds 83 14=true:=by kernel_rfl
theorem akP:jd Tryz.prog fB pl rows Ds 111 6=true:=by kernel_rfl
theorem akX:jd Tryz.prog fB pl rows Ds 156 4=true:=by kernel_rfl
theorem ak0:jd Tryz.prog fB pl rows Ds 175 7=true:=by kernel_rfl
end M
end Go.Proofs.YtilkjidelblkfaaGreatDoor
