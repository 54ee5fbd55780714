/- The rows of definitions are as they say: the ways of the bodies, run by the kernel. -/
import Derived.Test.YtcnekfnipdihgaaGreatDoorKVD
set_option linter.all false
namespace Go.Proofs.YtcnekfnipdihgaaGreatDoor
open Go Go.aP
set_option maxRecDepth 100000
namespace V
def g8:fO Tryz.prog dD pl rows Ds 8 7=true:=by kernel_rfl
def g30:fO Tryz.prog dD pl rows Ds 30 1=true:=by kernel_rfl
def g31:fO Tryz.prog dD pl rows Ds 31 1=true:=by kernel_rfl
def g69:fO Tryz.prog dD pl rows Ds 69 3=true:=by kernel_rfl
def g74:fO Tryz.prog dD pl rows Ds 74 1=true:=by kernel_rfl
def g88:fO Tryz.prog dD pl rows Ds 88 1=true:=by kernel_rfl
def g89:fO Tryz.prog dD pl rows Ds 89 25=true:=by kernel_rfl
def aun:fO Tryz.prog dD pl rows Ds 119 11=true:=by kernel_rfl
def aup:fO Tryz.prog dD pl rows Ds 135 5=true:=by kernel_rfl
def aur:fO Tryz.prog dD pl rows Ds 141 1=true:=by kernel_rfl
def auA:fO Tryz.prog dD pl rows Ds 162 5=true:=by kernel_rfl
def auD:fO Tryz.prog dD pl rows Ds 170 1=true:=by kernel_rfl
def auJ:fO Tryz.prog dD pl rows Ds 190 5=true:=by kernel_rfl
def auL:fO Tryz.prog dD pl rows Ds 199 2=true:=by kernel_rfl
def auN:fO Tryz.prog dD pl rows Ds 205 3=true:=by kernel_rfl
def auP:fO Tryz.prog dD pl rows Ds 209 1=true:=by kernel_rfl
def auQ:fO Tryz.prog dD pl rows Ds 210 8=true:=by kernel_rfl
