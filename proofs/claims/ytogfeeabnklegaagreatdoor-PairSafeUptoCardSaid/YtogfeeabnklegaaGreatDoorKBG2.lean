/- The rows of definitions are as they say: the ways of the bodies, run by the kernel. -/
import Derived.Test.YtogfeeabnklegaaGreatDoorKBD
set_option linter.all false
namespace Go.Proofs.YtogfeeabnklegaaGreatDoor
open Go Go.aP
set_option maxRecDepth 100000
namespace B
def g0:fK Tryz.prog dH pl rows Ds 0 2=true:=by kernel_rfl
def g35:fK Tryz.prog dH pl rows Ds 35 11=true:=by kernel_rfl
def g90:fK Tryz.prog dH pl rows Ds 90 1=true:=by kernel_rfl
def g91:fK Tryz.prog dH pl rows Ds 91 1=true:=by kernel_rfl
def g94:fK Tryz.prog dH pl rows Ds 94 8=true:=by kernel_rfl
def auA:fK Tryz.prog dH pl rows Ds 105 1=true:=by kernel_rfl
def auB:fK Tryz.prog dH pl rows Ds 106 1=true:=by kernel_rfl
def auD:fK Tryz.prog dH pl rows Ds 132 3=true:=by kernel_rfl
def auK:fK Tryz.prog dH pl rows Ds 159 1=true:=by kernel_rfl
def auV:fK Tryz.prog dH pl rows Ds 188 1=true:=by kernel_rfl
def auW:fK Tryz.prog dH pl rows Ds 189 4=true:=by kernel_rfl
def auY:fK Tryz.prog dH pl rows Ds 202 2=true:=by kernel_rfl
def au3:fK Tryz.prog dH pl rows Ds 217 2=true:=by kernel_rfl
def au4:fK Tryz.prog dH pl rows Ds 219 3=true:=by kernel_rfl
def au5:fK Tryz.prog dH pl rows Ds 222 2=true:=by kernel_rfl
def au9:fK Tryz.prog dH pl rows Ds 235 2=true:=by kernel_rfl
def w34_TTFFT:w34 [zz1,zz1,zz0,zz0,zz1]=true:=by kernel_rfl
def w34_TFFTT:w34 [zz1,zz0,zz0,zz1,zz1]=true:=by kernel_rfl
def w34_TFFTFFT:w34 [zz1,zz0,zz0,zz1,zz0,zz0,zz1]=true:=by kernel_rfl
def w2_FFFFT:w2 [zz0,zz0,zz0,zz0,zz1]=true:=by kernel_rfl
def w2_FFFFFFFFT:w2 [zz0,zz0,zz0,zz0,zz0,zz0,zz0,zz0,zz1]=true:=by kernel_rfl
def w2_FFFFFFFFFFFFT:w2 [zz0,zz0,zz0,zz0,zz0,zz0,zz0,zz0,zz0,zz0,zz0,zz0,zz1]=true:=by kernel_rfl
