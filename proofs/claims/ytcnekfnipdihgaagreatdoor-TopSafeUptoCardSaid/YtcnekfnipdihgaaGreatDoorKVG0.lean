/- The rows of definitions are as they say: the ways of the bodies, run by the kernel. -/
import Derived.Test.YtcnekfnipdihgaaGreatDoorKVD
set_option linter.all false
namespace Go.Proofs.YtcnekfnipdihgaaGreatDoor
open Go Go.aP
set_option maxRecDepth 100000
namespace V
def g43:fO Tryz.prog dD pl rows Ds 43 8=true:=by kernel_rfl
def g65:fO Tryz.prog dD pl rows Ds 65 4=true:=by kernel_rfl
def g84:fO Tryz.prog dD pl rows Ds 84 3=true:=by kernel_rfl
def auq:fO Tryz.prog dD pl rows Ds 140 1=true:=by kernel_rfl
def aut:fO Tryz.prog dD pl rows Ds 143 7=true:=by kernel_rfl
def auv:fO Tryz.prog dD pl rows Ds 151 2=true:=by kernel_rfl
def auz:fO Tryz.prog dD pl rows Ds 160 2=true:=by kernel_rfl
def auB:fO Tryz.prog dD pl rows Ds 167 2=true:=by kernel_rfl
def auE:fO Tryz.prog dD pl rows Ds 171 4=true:=by kernel_rfl
def auH:fO Tryz.prog dD pl rows Ds 186 3=true:=by kernel_rfl
