/- The rows of definitions are as they say: the ways of the bodies, run by the kernel. -/
import Derived.Test.YtogfeeabnklegaaGreatDoorKBD
set_option linter.all false
namespace Go.Proofs.YtogfeeabnklegaaGreatDoor
open Go Go.aP
set_option maxRecDepth 100000
namespace B
def g10:fK Tryz.prog dH pl rows Ds 10 9=true:=by kernel_rfl
def g33:fK Tryz.prog dH pl rows Ds 33 1=true:=by kernel_rfl
def g53:fK Tryz.prog dH pl rows Ds 53 3=true:=by kernel_rfl
def g79:fK Tryz.prog dH pl rows Ds 79 4=true:=by kernel_rfl
def g87:fK Tryz.prog dH pl rows Ds 87 3=true:=by kernel_rfl
def auH:fK Tryz.prog dH pl rows Ds 148 5=true:=by kernel_rfl
def auI:fK Tryz.prog dH pl rows Ds 153 5=true:=by kernel_rfl
def auJ:fK Tryz.prog dH pl rows Ds 158 1=true:=by kernel_rfl
def auS:fK Tryz.prog dH pl rows Ds 180 5=true:=by kernel_rfl
def au2:fK Tryz.prog dH pl rows Ds 213 4=true:=by kernel_rfl
def au8:fK Tryz.prog dH pl rows Ds 232 3=true:=by kernel_rfl
def w34_TTT:w34 [zz1,zz1,zz1]=true:=by kernel_rfl
def w34_TFTT:w34 [zz1,zz0,zz1,zz1]=true:=by kernel_rfl
def w34_TFTFFT:w34 [zz1,zz0,zz1,zz0,zz0,zz1]=true:=by kernel_rfl
def w34_TFFF:w34 [zz1,zz0,zz0,zz0]=true:=by kernel_rfl
def w2_FFFFFFT:w2 [zz0,zz0,zz0,zz0,zz0,zz0,zz1]=true:=by kernel_rfl
def w2_FFFFFFFFFFT:w2 [zz0,zz0,zz0,zz0,zz0,zz0,zz0,zz0,zz0,zz0,zz1]=true:=by kernel_rfl
