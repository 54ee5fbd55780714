/- The rows of definitions are as they say: the ways of the bodies, run by the kernel. -/
import Derived.Test.YthchhlenbkefnaaGreatDoorKUD
set_option linter.all false
namespace Go.Proofs.YthchhlenbkefnaaGreatDoor
open Go Go.aN
set_option maxRecDepth 100000
namespace U
def g15:fD Tryz.prog bZ pl rows Ds 15 11=true:=by kernel_rfl
def g36:fD Tryz.prog bZ pl rows Ds 36 17=true:=by kernel_rfl
def g81:fD Tryz.prog bZ pl rows Ds 81 1=true:=by kernel_rfl
def at7:fD Tryz.prog bZ pl rows Ds 110 1=true:=by kernel_rfl
def auf:fD Tryz.prog bZ pl rows Ds 134 12=true:=by kernel_rfl
def auh:fD Tryz.prog bZ pl rows Ds 147 28=true:=by kernel_rfl
def auk:fD Tryz.prog bZ pl rows Ds 216 39=true:=by kernel_rfl
def auu:fD Tryz.prog bZ pl rows Ds 303 1=true:=by kernel_rfl
def auy:fD Tryz.prog bZ pl rows Ds 313 4=true:=by kernel_rfl
def auz:fD Tryz.prog bZ pl rows Ds 317 7=true:=by kernel_rfl
def auE:fD Tryz.prog bZ pl rows Ds 340 3=true:=by kernel_rfl
def auF:fD Tryz.prog bZ pl rows Ds 343 3=true:=by kernel_rfl
def auG:fD Tryz.prog bZ pl rows Ds 346 14=true:=by kernel_rfl
def auM:fD Tryz.prog bZ pl rows Ds 382 1=true:=by kernel_rfl
def auO:fD Tryz.prog bZ pl rows Ds 385 1=true:=by kernel_rfl
