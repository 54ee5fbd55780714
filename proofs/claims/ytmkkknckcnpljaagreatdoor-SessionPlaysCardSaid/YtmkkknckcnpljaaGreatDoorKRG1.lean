/- The rows of definitions are as they say: the ways of the bodies, run by the kernel. -/
import Derived.Test.YtmkkknckcnpljaaGreatDoorKRD
set_option linter.all false
namespace Go.Proofs.YtmkkknckcnpljaaGreatDoor
open Go Go.aO
set_option maxRecDepth 100000
namespace R
def g0:bY Tryz.prog bG pl rows Ds 0 1=true:=by kernel_rfl
def g38:bY Tryz.prog bG pl rows Ds 38 7=true:=by kernel_rfl
def g62:bY Tryz.prog bG pl rows Ds 62 25=true:=by kernel_rfl
def g91:bY Tryz.prog bG pl rows Ds 91 1=true:=by kernel_rfl
def arZ:bY Tryz.prog bG pl rows Ds 114 3=true:=by kernel_rfl
def ar1:bY Tryz.prog bG pl rows Ds 123 11=true:=by kernel_rfl
def ar7:bY Tryz.prog bG pl rows Ds 169 2=true:=by kernel_rfl
def ar8:bY Tryz.prog bG pl rows Ds 171 1=true:=by kernel_rfl
def asg:bY Tryz.prog bG pl rows Ds 188 6=true:=by kernel_rfl
def aso:bY Tryz.prog bG pl rows Ds 220 1=true:=by kernel_rfl
def asq:bY Tryz.prog bG pl rows Ds 221 5=true:=by kernel_rfl
def asu:bY Tryz.prog bG pl rows Ds 230 7=true:=by kernel_rfl
def asv:bY Tryz.prog bG pl rows Ds 237 2=true:=by kernel_rfl
def asw:bY Tryz.prog bG pl rows Ds 239 2=true:=by kernel_rfl
def asx:bY Tryz.prog bG pl rows Ds 241 1=true:=by kernel_rfl
def asA:bY Tryz.prog bG pl rows Ds 251 4=true:=by kernel_rfl
def asJ:bY Tryz.prog bG pl rows Ds 281 1=true:=by kernel_rfl
def asP:bY Tryz.prog bG pl rows Ds 300 2=true:=by kernel_rfl
def asU:bY Tryz.prog bG pl rows Ds 309 1=true:=by kernel_rfl
def asV:bY Tryz.prog bG pl rows Ds 310 7=true:=by kernel_rfl
def asY:bY Tryz.prog bG pl rows Ds 320 5=true:=by kernel_rfl
def aCZ:w1 [o0,o1]=true:=by kernel_rfl
def aCV:w1 [o0,o0,o0,o0,o0,o1]=true:=by kernel_rfl
def aCR:JM [o1,o1]=true:=by kernel_rfl
def aCQ:JM [o1,o0,o1,o1]=true:=by kernel_rfl
def aCM:JM [o0]=true:=by kernel_rfl
