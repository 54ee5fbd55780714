/- The rows of definitions are as they say: the ways of the bodies, run by the kernel. -/
import Derived.Test.YtaggjpipnjmleaaGreatDoorKVD
namespace Go.Proofs.YtaggjpipnjmleaaGreatDoor
open Go Go.aJ
set_option maxRecDepth 100000
set_option linter.unusedVariables false
set_option linter.unusedSimpArgs false
namespace V
theorem g1:gG Tryz.prog dQ pl rows Ds 1 1=true:=by kernel_rfl
theorem g38:gG Tryz.prog dQ pl rows Ds 38 1=true:=by kernel_rfl
theorem g74:gG Tryz.prog dQ pl rows Ds 74 4=true:=by kernel_rfl
theorem g79:gG Tryz.prog dQ pl rows Ds 79 13=true:=by kernel_rfl
theorem g93:gG Tryz.prog dQ pl rows Ds 93 2=true:=by kernel_rfl
theorem aj2:gG Tryz.prog dQ pl rows Ds 137 2=true:=by kernel_rfl
theorem aj8:gG Tryz.prog dQ pl rows Ds 159 7=true:=by kernel_rfl
theorem aj9:gG Tryz.prog dQ pl rows Ds 166 2=true:=by kernel_rfl
theorem akl:gG Tryz.prog dQ pl rows Ds 215 7=true:=by kernel_rfl
theorem akm:gG Tryz.prog dQ pl rows Ds 222 2=true:=by kernel_rfl
theorem w1_FFTFFF:w1 [false,false,true,false,false,false]=true:=by kernel_rfl
theorem w1_FT:w1 [false,true]=true:=by kernel_rfl
theorem w1_FFFFT:w1 [false,false,false,false,true]=true:=by kernel_rfl
end V
end Go.Proofs.YtaggjpipnjmleaaGreatDoor
