/- The rows of definitions are as they say: the ways of the bodies, run by the kernel. -/
import Derived.Test.YtcnekfnipdihgaaGreatDoorKVD
set_option linter.all false
namespace Go.Proofs.YtcnekfnipdihgaaGreatDoor
open Go Go.aP
set_option maxRecDepth 100000
namespace V
def g15:fO Tryz.prog dD pl rows Ds 15 11=true:=by kernel_rfl
def g37:fO Tryz.prog dD pl rows Ds 37 6=true:=by kernel_rfl
def g59:fO Tryz.prog dD pl rows Ds 59 4=true:=by kernel_rfl
def g72:fO Tryz.prog dD pl rows Ds 72 1=true:=by kernel_rfl
def g75:fO Tryz.prog dD pl rows Ds 75 1=true:=by kernel_rfl
def g76:fO Tryz.prog dD pl rows Ds 76 8=true:=by kernel_rfl
def g87:fO Tryz.prog dD pl rows Ds 87 1=true:=by kernel_rfl
def auk:fO Tryz.prog dD pl rows Ds 114 3=true:=by kernel_rfl
def aum:fO Tryz.prog dD pl rows Ds 118 1=true:=by kernel_rfl
def aus:fO Tryz.prog dD pl rows Ds 142 1=true:=by kernel_rfl
def auy:fO Tryz.prog dD pl rows Ds 159 1=true:=by kernel_rfl
def auC:fO Tryz.prog dD pl rows Ds 169 1=true:=by kernel_rfl
def auF:fO Tryz.prog dD pl rows Ds 175 9=true:=by kernel_rfl
def auK:fO Tryz.prog dD pl rows Ds 195 4=true:=by kernel_rfl
def auO:fO Tryz.prog dD pl rows Ds 208 1=true:=by kernel_rfl
def auS:fO Tryz.prog dD pl rows Ds 228 5=true:=by kernel_rfl
