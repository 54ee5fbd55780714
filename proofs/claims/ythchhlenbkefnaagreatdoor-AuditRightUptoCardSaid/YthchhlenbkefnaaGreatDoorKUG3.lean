/- The rows of definitions are as they say: the ways of the bodies, run by the kernel. -/
import Derived.Test.YthchhlenbkefnaaGreatDoorKUD
set_option linter.all false
namespace Go.Proofs.YthchhlenbkefnaaGreatDoor
open Go Go.aN
set_option maxRecDepth 100000
namespace U
def g8:fD Tryz.prog bZ pl rows Ds 8 7=true:=by kernel_rfl
def g66:fD Tryz.prog bZ pl rows Ds 66 1=true:=by kernel_rfl
def g67:fD Tryz.prog bZ pl rows Ds 67 1=true:=by kernel_rfl
def g77:fD Tryz.prog bZ pl rows Ds 77 3=true:=by kernel_rfl
def g80:fD Tryz.prog bZ pl rows Ds 80 1=true:=by kernel_rfl
def g82:fD Tryz.prog bZ pl rows Ds 82 25=true:=by kernel_rfl
def at6:fD Tryz.prog bZ pl rows Ds 107 3=true:=by kernel_rfl
def aub:fD Tryz.prog bZ pl rows Ds 112 11=true:=by kernel_rfl
def auc:fD Tryz.prog bZ pl rows Ds 123 7=true:=by kernel_rfl
def aum:fD Tryz.prog bZ pl rows Ds 271 1=true:=by kernel_rfl
def aun:fD Tryz.prog bZ pl rows Ds 272 7=true:=by kernel_rfl
def aup:fD Tryz.prog bZ pl rows Ds 284 1=true:=by kernel_rfl
def auq:fD Tryz.prog bZ pl rows Ds 285 4=true:=by kernel_rfl
def aur:fD Tryz.prog bZ pl rows Ds 289 9=true:=by kernel_rfl
def aus:fD Tryz.prog bZ pl rows Ds 298 2=true:=by kernel_rfl
def auA:fD Tryz.prog bZ pl rows Ds 324 1=true:=by kernel_rfl
def auH:fD Tryz.prog bZ pl rows Ds 360 1=true:=by kernel_rfl
def auK:fD Tryz.prog bZ pl rows Ds 379 1=true:=by kernel_rfl
