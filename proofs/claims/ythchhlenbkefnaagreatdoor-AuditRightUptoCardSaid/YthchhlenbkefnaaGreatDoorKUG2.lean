/- The rows of definitions are as they say: the ways of the bodies, run by the kernel. -/
import Derived.Test.YthchhlenbkefnaaGreatDoorKUD
set_option linter.all false
namespace Go.Proofs.YthchhlenbkefnaaGreatDoor
open Go Go.aN
set_option maxRecDepth 100000
namespace U
def g26:fD Tryz.prog bZ pl rows Ds 26 10=true:=by kernel_rfl
def g53:fD Tryz.prog bZ pl rows Ds 53 3=true:=by kernel_rfl
def g56:fD Tryz.prog bZ pl rows Ds 56 7=true:=by kernel_rfl
def g68:fD Tryz.prog bZ pl rows Ds 68 1=true:=by kernel_rfl
def g69:fD Tryz.prog bZ pl rows Ds 69 8=true:=by kernel_rfl
def aua:fD Tryz.prog bZ pl rows Ds 111 1=true:=by kernel_rfl
def aug:fD Tryz.prog bZ pl rows Ds 146 1=true:=by kernel_rfl
def auj:fD Tryz.prog bZ pl rows Ds 209 7=true:=by kernel_rfl
def aul:fD Tryz.prog bZ pl rows Ds 255 16=true:=by kernel_rfl
def auo:fD Tryz.prog bZ pl rows Ds 279 5=true:=by kernel_rfl
def auB:fD Tryz.prog bZ pl rows Ds 325 11=true:=by kernel_rfl
def auC:fD Tryz.prog bZ pl rows Ds 336 3=true:=by kernel_rfl
def auD:fD Tryz.prog bZ pl rows Ds 339 1=true:=by kernel_rfl
def auI:fD Tryz.prog bZ pl rows Ds 361 7=true:=by kernel_rfl
def auL:fD Tryz.prog bZ pl rows Ds 380 2=true:=by kernel_rfl
def auN:fD Tryz.prog bZ pl rows Ds 383 2=true:=by kernel_rfl
def auP:fD Tryz.prog bZ pl rows Ds 386 1=true:=by kernel_rfl
