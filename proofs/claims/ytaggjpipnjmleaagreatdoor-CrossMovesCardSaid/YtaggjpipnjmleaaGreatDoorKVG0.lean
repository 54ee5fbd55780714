/- The rows of definitions are as they say: the ways of the bodies, run by the kernel. -/
import Derived.Test.YtaggjpipnjmleaaGreatDoorKVD
namespace Go.Proofs.YtaggjpipnjmleaaGreatDoor
open Go Go.aJ
set_option maxRecDepth 100000
set_option linter.unusedVariables false
set_option linter.unusedSimpArgs false
namespace V
theorem g24:gG Tryz.prog dQ pl rows Ds 24 2=true:=by kernel_rfl
theorem g32:gG Tryz.prog dQ pl rows Ds 32 6=true:=by kernel_rfl
theorem ajX:gG Tryz.prog dQ pl rows Ds 111 4=true:=by kernel_rfl
theorem ajY:gG Tryz.prog dQ pl rows Ds 115 1=true:=by kernel_rfl
theorem aj1:gG Tryz.prog dQ pl rows Ds 128 9=true:=by kernel_rfl
theorem aj6:gG Tryz.prog dQ pl rows Ds 144 5=true:=by kernel_rfl
theorem aj7:gG Tryz.prog dQ pl rows Ds 149 10=true:=by kernel_rfl
theorem akb:gG Tryz.prog dQ pl rows Ds 168 12=true:=by kernel_rfl
theorem akh:gG Tryz.prog dQ pl rows Ds 200 5=true:=by kernel_rfl
theorem w1_FFTFFT:w1 [false,false,true,false,false,true]=true:=by kernel_rfl
theorem w1_T:w1 [true]=true:=by kernel_rfl
theorem w1_FFFT:w1 [false,false,false,true]=true:=by kernel_rfl
end V
end Go.Proofs.YtaggjpipnjmleaaGreatDoor
