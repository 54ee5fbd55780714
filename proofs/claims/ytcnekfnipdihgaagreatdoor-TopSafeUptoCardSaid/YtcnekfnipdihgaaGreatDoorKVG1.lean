/- The rows of definitions are as they say: the ways of the bodies, run by the kernel. -/
import Derived.Test.YtcnekfnipdihgaaGreatDoorKVD
set_option linter.all false
namespace Go.Proofs.YtcnekfnipdihgaaGreatDoor
open Go Go.aP
set_option maxRecDepth 100000
namespace V
def g0:fO Tryz.prog dD pl rows Ds 0 8=true:=by kernel_rfl
def g26:fO Tryz.prog dD pl rows Ds 26 4=true:=by kernel_rfl
def g32:fO Tryz.prog dD pl rows Ds 32 5=true:=by kernel_rfl
def g51:fO Tryz.prog dD pl rows Ds 51 8=true:=by kernel_rfl
def g63:fO Tryz.prog dD pl rows Ds 63 2=true:=by kernel_rfl
def g73:fO Tryz.prog dD pl rows Ds 73 1=true:=by kernel_rfl
def aul:fO Tryz.prog dD pl rows Ds 117 1=true:=by kernel_rfl
def auo:fO Tryz.prog dD pl rows Ds 130 5=true:=by kernel_rfl
def auu:fO Tryz.prog dD pl rows Ds 150 1=true:=by kernel_rfl
def auw:fO Tryz.prog dD pl rows Ds 153 6=true:=by kernel_rfl
def auG:fO Tryz.prog dD pl rows Ds 184 2=true:=by kernel_rfl
def auI:fO Tryz.prog dD pl rows Ds 189 1=true:=by kernel_rfl
def auM:fO Tryz.prog dD pl rows Ds 201 4=true:=by kernel_rfl
def auR:fO Tryz.prog dD pl rows Ds 218 10=true:=by kernel_rfl
def auT:fO Tryz.prog dD pl rows Ds 233 7=true:=by kernel_rfl
