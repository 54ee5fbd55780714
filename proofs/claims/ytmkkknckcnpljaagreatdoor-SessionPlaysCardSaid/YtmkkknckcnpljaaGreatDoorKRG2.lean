/- The rows of definitions are as they say: the ways of the bodies, run by the kernel. -/
import Derived.Test.YtmkkknckcnpljaaGreatDoorKRD
set_option linter.all false
namespace Go.Proofs.YtmkkknckcnpljaaGreatDoor
open Go Go.aO
set_option maxRecDepth 100000
namespace R
def g6:bY Tryz.prog bG pl rows Ds 6 1=true:=by kernel_rfl
def g46:bY Tryz.prog bG pl rows Ds 46 1=true:=by kernel_rfl
def g57:bY Tryz.prog bG pl rows Ds 57 3=true:=by kernel_rfl
def g90:bY Tryz.prog bG pl rows Ds 90 1=true:=by kernel_rfl
def g92:bY Tryz.prog bG pl rows Ds 92 11=true:=by kernel_rfl
def ar0:bY Tryz.prog bG pl rows Ds 117 6=true:=by kernel_rfl
def ar6:bY Tryz.prog bG pl rows Ds 168 1=true:=by kernel_rfl
def ase:bY Tryz.prog bG pl rows Ds 180 4=true:=by kernel_rfl
def asf:bY Tryz.prog bG pl rows Ds 184 4=true:=by kernel_rfl
def asj:bY Tryz.prog bG pl rows Ds 200 6=true:=by kernel_rfl
def asy:bY Tryz.prog bG pl rows Ds 242 5=true:=by kernel_rfl
def asG:bY Tryz.prog bG pl rows Ds 267 8=true:=by kernel_rfl
def asM:bY Tryz.prog bG pl rows Ds 289 4=true:=by kernel_rfl
def asR:bY Tryz.prog bG pl rows Ds 303 3=true:=by kernel_rfl
def asT:bY Tryz.prog bG pl rows Ds 306 3=true:=by kernel_rfl
def asW:bY Tryz.prog bG pl rows Ds 317 2=true:=by kernel_rfl
def as1:bY Tryz.prog bG pl rows Ds 326 4=true:=by kernel_rfl
def aCY:w1 [o0,o0,o1]=true:=by kernel_rfl
def aCU:w1 [o0,o0,o0,o0,o0,o0,o1]=true:=by kernel_rfl
def aCN:JM [o1,o0,o0,o0]=true:=by kernel_rfl
