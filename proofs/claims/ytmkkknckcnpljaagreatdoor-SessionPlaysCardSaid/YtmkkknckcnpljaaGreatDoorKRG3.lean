/- The rows of definitions are as they say: the ways of the bodies, run by the kernel. -/
import Derived.Test.YtmkkknckcnpljaaGreatDoorKRD
set_option linter.all false
namespace Go.Proofs.YtmkkknckcnpljaaGreatDoor
open Go Go.aO
set_option maxRecDepth 100000
namespace R
def g2:bY Tryz.prog bG pl rows Ds 2 4=true:=by kernel_rfl
def g7:bY Tryz.prog bG pl rows Ds 7 4=true:=by kernel_rfl
def g21:bY Tryz.prog bG pl rows Ds 21 17=true:=by kernel_rfl
def g45:bY Tryz.prog bG pl rows Ds 45 1=true:=by kernel_rfl
def g60:bY Tryz.prog bG pl rows Ds 60 1=true:=by kernel_rfl
def ar2:bY Tryz.prog bG pl rows Ds 134 19=true:=by kernel_rfl
def ar4:bY Tryz.prog bG pl rows Ds 153 8=true:=by kernel_rfl
def ar5:bY Tryz.prog bG pl rows Ds 161 7=true:=by kernel_rfl
def ar9:bY Tryz.prog bG pl rows Ds 172 1=true:=by kernel_rfl
def asa:bY Tryz.prog bG pl rows Ds 173 1=true:=by kernel_rfl
def asb:bY Tryz.prog bG pl rows Ds 174 1=true:=by kernel_rfl
def asc:bY Tryz.prog bG pl rows Ds 175 5=true:=by kernel_rfl
def ash:bY Tryz.prog bG pl rows Ds 194 1=true:=by kernel_rfl
def asB:bY Tryz.prog bG pl rows Ds 255 5=true:=by kernel_rfl
def asH:bY Tryz.prog bG pl rows Ds 275 5=true:=by kernel_rfl
def asI:bY Tryz.prog bG pl rows Ds 280 1=true:=by kernel_rfl
def asK:bY Tryz.prog bG pl rows Ds 282 5=true:=by kernel_rfl
def asL:bY Tryz.prog bG pl rows Ds 287 2=true:=by kernel_rfl
def asN:bY Tryz.prog bG pl rows Ds 293 5=true:=by kernel_rfl
def asO:bY Tryz.prog bG pl rows Ds 298 2=true:=by kernel_rfl
def asQ:bY Tryz.prog bG pl rows Ds 302 1=true:=by kernel_rfl
def asZ:bY Tryz.prog bG pl rows Ds 325 1=true:=by kernel_rfl
def aCX:w1 [o0,o0,o0,o1]=true:=by kernel_rfl
def aCT:w1 [o0,o0,o0,o0,o0,o0,o0,o1]=true:=by kernel_rfl
def aCP:JM [o1,o0,o1,o0]=true:=by kernel_rfl
