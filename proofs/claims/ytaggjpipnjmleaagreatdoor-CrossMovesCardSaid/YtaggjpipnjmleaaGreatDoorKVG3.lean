/- The rows of definitions are as they say: the ways of the bodies, run by the kernel. -/
import Derived.Test.YtaggjpipnjmleaaGreatDoorKVD
namespace Go.Proofs.YtaggjpipnjmleaaGreatDoor
open Go Go.aJ
set_option maxRecDepth 100000
set_option linter.unusedVariables false
set_option linter.unusedSimpArgs false
namespace V
theorem g2:gG Tryz.prog dQ pl rows Ds 2 13=true:=by kernel_rfl
theorem g92:gG Tryz.prog dQ pl rows Ds 92 1=true:=by kernel_rfl
theorem ajW:gG Tryz.prog dQ pl rows Ds 102 9=true:=by kernel_rfl
theorem ajZ:gG Tryz.prog dQ pl rows Ds 116 8=true:=by kernel_rfl
theorem aj0:gG Tryz.prog dQ pl rows Ds 124 4=true:=by kernel_rfl
theorem aj3:gG Tryz.prog dQ pl rows Ds 139 5=true:=by kernel_rfl
theorem akc:gG Tryz.prog dQ pl rows Ds 180 1=true:=by kernel_rfl
theorem akd:gG Tryz.prog dQ pl rows Ds 181 8=true:=by kernel_rfl
theorem akf:gG Tryz.prog dQ pl rows Ds 193 1=true:=by kernel_rfl
theorem akg:gG Tryz.prog dQ pl rows Ds 194 6=true:=by kernel_rfl
theorem akj:gG Tryz.prog dQ pl rows Ds 212 2=true:=by kernel_rfl
theorem w1_FFFFFF:w1 [false,false,false,false,false,false]=true:=by kernel_rfl
theorem w1_FFTFT:w1 [false,false,true,false,true]=true:=by kernel_rfl
end V
end Go.Proofs.YtaggjpipnjmleaaGreatDoor
