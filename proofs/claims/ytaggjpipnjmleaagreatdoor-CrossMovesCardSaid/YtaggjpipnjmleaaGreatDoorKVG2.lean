/- The rows of definitions are as they say: the ways of the bodies, run by the kernel. -/
import Derived.Test.YtaggjpipnjmleaaGreatDoorKVD
namespace Go.Proofs.YtaggjpipnjmleaaGreatDoor
open Go Go.aJ
set_option maxRecDepth 100000
set_option linter.unusedVariables false
set_option linter.unusedSimpArgs false
namespace V
theorem g0:gG Tryz.prog dQ pl rows Ds 0 1=true:=by kernel_rfl
theorem g15:gG Tryz.prog dQ pl rows Ds 15 7=true:=by kernel_rfl
theorem g22:gG Tryz.prog dQ pl rows Ds 22 2=true:=by kernel_rfl
theorem g26:gG Tryz.prog dQ pl rows Ds 26 6=true:=by kernel_rfl
theorem g39:gG Tryz.prog dQ pl rows Ds 39 10=true:=by kernel_rfl
theorem g49:gG Tryz.prog dQ pl rows Ds 49 25=true:=by kernel_rfl
theorem g78:gG Tryz.prog dQ pl rows Ds 78 1=true:=by kernel_rfl
theorem g95:gG Tryz.prog dQ pl rows Ds 95 7=true:=by kernel_rfl
theorem ake:gG Tryz.prog dQ pl rows Ds 189 4=true:=by kernel_rfl
theorem aki:gG Tryz.prog dQ pl rows Ds 205 7=true:=by kernel_rfl
theorem akk:gG Tryz.prog dQ pl rows Ds 214 1=true:=by kernel_rfl
theorem w1_FFFFFT:w1 [false,false,false,false,false,true]=true:=by kernel_rfl
theorem w1_FFTT:w1 [false,false,true,true]=true:=by kernel_rfl
end V
end Go.Proofs.YtaggjpipnjmleaaGreatDoor
