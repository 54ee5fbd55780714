/- The rows of definitions are as they say: the ways of the bodies, run by the kernel. -/
import Derived.Test.YtkoclengoeonnaaGreatDoorKQD
set_option linter.all false
namespace Go.Proofs.YtkoclengoeonnaaGreatDoor
open Go Go.aP
set_option maxRecDepth 100000
namespace Q
def g47:fB Tryz.prog bY pl rows Ds 47 5=true:=by kernel_rfl
def g94:fB Tryz.prog bY pl rows Ds 94 3=true:=by kernel_rfl
def aq3:fB Tryz.prog bY pl rows Ds 114 5=true:=by kernel_rfl
def aq4:fB Tryz.prog bY pl rows Ds 119 1=true:=by kernel_rfl
def arf:fB Tryz.prog bY pl rows Ds 150 3=true:=by kernel_rfl
def arj:fB Tryz.prog bY pl rows Ds 159 4=true:=by kernel_rfl
def aru:fB Tryz.prog bY pl rows Ds 179 8=true:=by kernel_rfl
def arx:fB Tryz.prog bY pl rows Ds 198 1=true:=by kernel_rfl
def arH:fB Tryz.prog bY pl rows Ds 226 3=true:=by kernel_rfl
