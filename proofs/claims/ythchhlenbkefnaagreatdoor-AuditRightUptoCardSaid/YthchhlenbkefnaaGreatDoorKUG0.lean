/- The rows of definitions are as they say: the ways of the bodies, run by the kernel. -/
import Derived.Test.YthchhlenbkefnaaGreatDoorKUD
set_option linter.all false
namespace Go.Proofs.YthchhlenbkefnaaGreatDoor
open Go Go.aN
set_option maxRecDepth 100000
namespace U
def g0:fD Tryz.prog bZ pl rows Ds 0 8=true:=by kernel_rfl
def g63:fD Tryz.prog bZ pl rows Ds 63 3=true:=by kernel_rfl
def aud:fD Tryz.prog bZ pl rows Ds 130 3=true:=by kernel_rfl
def aue:fD Tryz.prog bZ pl rows Ds 133 1=true:=by kernel_rfl
def aui:fD Tryz.prog bZ pl rows Ds 175 34=true:=by kernel_rfl
def aut:fD Tryz.prog bZ pl rows Ds 300 3=true:=by kernel_rfl
def auv:fD Tryz.prog bZ pl rows Ds 304 5=true:=by kernel_rfl
def auw:fD Tryz.prog bZ pl rows Ds 309 4=true:=by kernel_rfl
def auJ:fD Tryz.prog bZ pl rows Ds 368 11=true:=by kernel_rfl
def auQ:fD Tryz.prog bZ pl rows Ds 387 1=true:=by kernel_rfl
