/- The rows of definitions are as they say: the ways of the bodies, run by the kernel. -/
import Derived.Test.YtmkkknckcnpljaaGreatDoorKRD
set_option linter.all false
namespace Go.Proofs.YtmkkknckcnpljaaGreatDoor
open Go Go.aO
set_option maxRecDepth 100000
namespace R
def g12:bY Tryz.prog bG pl rows Ds 12 9=true:=by kernel_rfl
def g47:bY Tryz.prog bG pl rows Ds 47 1=true:=by kernel_rfl
def g48:bY Tryz.prog bG pl rows Ds 48 1=true:=by kernel_rfl
def g49:bY Tryz.prog bG pl rows Ds 49 8=true:=by kernel_rfl
def g61:bY Tryz.prog bG pl rows Ds 61 1=true:=by kernel_rfl
def g87:bY Tryz.prog bG pl rows Ds 87 3=true:=by kernel_rfl
def arY:bY Tryz.prog bG pl rows Ds 103 11=true:=by kernel_rfl
def asi:bY Tryz.prog bG pl rows Ds 195 5=true:=by kernel_rfl
def asl:bY Tryz.prog bG pl rows Ds 206 3=true:=by kernel_rfl
def asn:bY Tryz.prog bG pl rows Ds 209 11=true:=by kernel_rfl
def asr:bY Tryz.prog bG pl rows Ds 226 4=true:=by kernel_rfl
def asz:bY Tryz.prog bG pl rows Ds 247 4=true:=by kernel_rfl
def asC:bY Tryz.prog bG pl rows Ds 260 3=true:=by kernel_rfl
def asD:bY Tryz.prog bG pl rows Ds 263 2=true:=by kernel_rfl
def asE:bY Tryz.prog bG pl rows Ds 265 1=true:=by kernel_rfl
def asF:bY Tryz.prog bG pl rows Ds 266 1=true:=by kernel_rfl
def asX:bY Tryz.prog bG pl rows Ds 319 1=true:=by kernel_rfl
def aC0:w1 [o1]=true:=by kernel_rfl
def aCW:w1 [o0,o0,o0,o0,o1]=true:=by kernel_rfl
def aCS:w1 [o0,o0,o0,o0,o0,o0,o0,o0]=true:=by kernel_rfl
def aCO:JM [o1,o0,o0,o1]=true:=by kernel_rfl
