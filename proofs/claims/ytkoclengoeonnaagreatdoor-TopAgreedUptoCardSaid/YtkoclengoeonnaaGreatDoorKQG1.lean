/- The rows of definitions are as they say: the ways of the bodies, run by the kernel. -/
import Derived.Test.YtkoclengoeonnaaGreatDoorKQD
set_option linter.all false
namespace Go.Proofs.YtkoclengoeonnaaGreatDoor
open Go Go.aP
set_option maxRecDepth 100000
namespace Q
def g0:fB Tryz.prog bY pl rows Ds 0 3=true:=by kernel_rfl
def g29:fB Tryz.prog bY pl rows Ds 29 7=true:=by kernel_rfl
def g36:fB Tryz.prog bY pl rows Ds 36 6=true:=by kernel_rfl
def g53:fB Tryz.prog bY pl rows Ds 53 1=true:=by kernel_rfl
def g54:fB Tryz.prog bY pl rows Ds 54 1=true:=by kernel_rfl
def aq2:fB Tryz.prog bY pl rows Ds 110 4=true:=by kernel_rfl
def aq7:fB Tryz.prog bY pl rows Ds 130 3=true:=by kernel_rfl
def arh:fB Tryz.prog bY pl rows Ds 153 1=true:=by kernel_rfl
def arl:fB Tryz.prog bY pl rows Ds 165 4=true:=by kernel_rfl
def arq:fB Tryz.prog bY pl rows Ds 177 1=true:=by kernel_rfl
def arv:fB Tryz.prog bY pl rows Ds 187 8=true:=by kernel_rfl
def arB:fB Tryz.prog bY pl rows Ds 204 7=true:=by kernel_rfl
def arC:fB Tryz.prog bY pl rows Ds 211 1=true:=by kernel_rfl
def arD:fB Tryz.prog bY pl rows Ds 212 2=true:=by kernel_rfl
def arE:fB Tryz.prog bY pl rows Ds 214 6=true:=by kernel_rfl
