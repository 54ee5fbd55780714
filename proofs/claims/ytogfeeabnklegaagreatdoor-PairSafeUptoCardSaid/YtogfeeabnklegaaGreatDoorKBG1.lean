/- The rows of definitions are as they say: the ways of the bodies, run by the kernel. -/
import Derived.Test.YtogfeeabnklegaaGreatDoorKBD
set_option linter.all false
namespace Go.Proofs.YtogfeeabnklegaaGreatDoor
open Go Go.aP
set_option maxRecDepth 100000
namespace B
def g3:fK Tryz.prog dH pl rows Ds 3 7=true:=by kernel_rfl
def g19:fK Tryz.prog dH pl rows Ds 19 14=true:=by kernel_rfl
def g46:fK Tryz.prog dH pl rows Ds 46 7=true:=by kernel_rfl
def g56:fK Tryz.prog dH pl rows Ds 56 4=true:=by kernel_rfl
def g64:fK Tryz.prog dH pl rows Ds 64 11=true:=by kernel_rfl
def auz:fK Tryz.prog dH pl rows Ds 102 3=true:=by kernel_rfl
def auE:fK Tryz.prog dH pl rows Ds 135 1=true:=by kernel_rfl
def auN:fK Tryz.prog dH pl rows Ds 168 1=true:=by kernel_rfl
def auO:fK Tryz.prog dH pl rows Ds 169 2=true:=by kernel_rfl
def auQ:fK Tryz.prog dH pl rows Ds 177 1=true:=by kernel_rfl
def auR:fK Tryz.prog dH pl rows Ds 178 2=true:=by kernel_rfl
def auU:fK Tryz.prog dH pl rows Ds 187 1=true:=by kernel_rfl
def auZ:fK Tryz.prog dH pl rows Ds 204 3=true:=by kernel_rfl
def au0:fK Tryz.prog dH pl rows Ds 207 1=true:=by kernel_rfl
def au7:fK Tryz.prog dH pl rows Ds 225 7=true:=by kernel_rfl
def w34_TTFT:w34 [zz1,zz1,zz0,zz1]=true:=by kernel_rfl
def w34_TFTFT:w34 [zz1,zz0,zz1,zz0,zz1]=true:=by kernel_rfl
def w34_TFTFFF:w34 [zz1,zz0,zz1,zz0,zz0,zz0]=true:=by kernel_rfl
def w34_F:w34 [zz0]=true:=by kernel_rfl
def w2_T:w2 [zz1]=true:=by kernel_rfl
def w2_FT:w2 [zz0,zz1]=true:=by kernel_rfl
def w2_FFT:w2 [zz0,zz0,zz1]=true:=by kernel_rfl
def w2_FFFT:w2 [zz0,zz0,zz0,zz1]=true:=by kernel_rfl
def w2_FFFFFFFT:w2 [zz0,zz0,zz0,zz0,zz0,zz0,zz0,zz1]=true:=by kernel_rfl
def w2_FFFFFFFFFFFT:w2 [zz0,zz0,zz0,zz0,zz0,zz0,zz0,zz0,zz0,zz0,zz0,zz1]=true:=by kernel_rfl
