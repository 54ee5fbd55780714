/- The rows of definitions are as they say: the ways of the bodies, run by the kernel. -/
import Derived.Test.YtkoclengoeonnaaGreatDoorKQD
set_option linter.all false
namespace Go.Proofs.YtkoclengoeonnaaGreatDoor
open Go Go.aP
set_option maxRecDepth 100000
namespace Q
def g3:fB Tryz.prog bY pl rows Ds 3 1=true:=by kernel_rfl
def g4:fB Tryz.prog bY pl rows Ds 4 7=true:=by kernel_rfl
def g11:fB Tryz.prog bY pl rows Ds 11 9=true:=by kernel_rfl
def g20:fB Tryz.prog bY pl rows Ds 20 9=true:=by kernel_rfl
def g42:fB Tryz.prog bY pl rows Ds 42 5=true:=by kernel_rfl
def g56:fB Tryz.prog bY pl rows Ds 56 8=true:=by kernel_rfl
def g64:fB Tryz.prog bY pl rows Ds 64 3=true:=by kernel_rfl
def g98:fB Tryz.prog bY pl rows Ds 98 1=true:=by kernel_rfl
def g99:fB Tryz.prog bY pl rows Ds 99 11=true:=by kernel_rfl
def aq8:fB Tryz.prog bY pl rows Ds 133 1=true:=by kernel_rfl
def ara:fB Tryz.prog bY pl rows Ds 135 4=true:=by kernel_rfl
def arb:fB Tryz.prog bY pl rows Ds 139 9=true:=by kernel_rfl
def ard:fB Tryz.prog bY pl rows Ds 148 2=true:=by kernel_rfl
def aro:fB Tryz.prog bY pl rows Ds 172 3=true:=by kernel_rfl
def arp:fB Tryz.prog bY pl rows Ds 175 2=true:=by kernel_rfl
def arA:fB Tryz.prog bY pl rows Ds 203 1=true:=by kernel_rfl
