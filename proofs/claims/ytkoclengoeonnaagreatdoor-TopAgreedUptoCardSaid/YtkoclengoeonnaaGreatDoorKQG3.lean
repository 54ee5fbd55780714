/- The rows of definitions are as they say: the ways of the bodies, run by the kernel. -/
import Derived.Test.YtkoclengoeonnaaGreatDoorKQD
set_option linter.all false
namespace Go.Proofs.YtkoclengoeonnaaGreatDoor
open Go Go.aP
set_option maxRecDepth 100000
namespace Q
def g52:fB Tryz.prog bY pl rows Ds 52 1=true:=by kernel_rfl
def g55:fB Tryz.prog bY pl rows Ds 55 1=true:=by kernel_rfl
def g67:fB Tryz.prog bY pl rows Ds 67 1=true:=by kernel_rfl
def g68:fB Tryz.prog bY pl rows Ds 68 1=true:=by kernel_rfl
def g69:fB Tryz.prog bY pl rows Ds 69 25=true:=by kernel_rfl
def g97:fB Tryz.prog bY pl rows Ds 97 1=true:=by kernel_rfl
def aq5:fB Tryz.prog bY pl rows Ds 120 5=true:=by kernel_rfl
def aq6:fB Tryz.prog bY pl rows Ds 125 5=true:=by kernel_rfl
def aq9:fB Tryz.prog bY pl rows Ds 134 1=true:=by kernel_rfl
def ari:fB Tryz.prog bY pl rows Ds 154 5=true:=by kernel_rfl
def ark:fB Tryz.prog bY pl rows Ds 163 2=true:=by kernel_rfl
def arn:fB Tryz.prog bY pl rows Ds 169 3=true:=by kernel_rfl
def ars:fB Tryz.prog bY pl rows Ds 178 1=true:=by kernel_rfl
def arw:fB Tryz.prog bY pl rows Ds 195 3=true:=by kernel_rfl
def arz:fB Tryz.prog bY pl rows Ds 199 4=true:=by kernel_rfl
def arF:fB Tryz.prog bY pl rows Ds 220 1=true:=by kernel_rfl
def arG:fB Tryz.prog bY pl rows Ds 221 5=true:=by kernel_rfl
