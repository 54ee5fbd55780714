/- The rows of definitions are as they say: the ways of the bodies, run by the kernel. -/
import Derived.Test.YtogfeeabnklegaaGreatDoorKBD
set_option linter.all false
namespace Go.Proofs.YtogfeeabnklegaaGreatDoor
open Go Go.aP
set_option maxRecDepth 100000
namespace B
def g60:fK Tryz.prog dH pl rows Ds 60 4=true:=by kernel_rfl
def g75:fK Tryz.prog dH pl rows Ds 75 3=true:=by kernel_rfl
def g83:fK Tryz.prog dH pl rows Ds 83 4=true:=by kernel_rfl
def g92:fK Tryz.prog dH pl rows Ds 92 1=true:=by kernel_rfl
def g93:fK Tryz.prog dH pl rows Ds 93 1=true:=by kernel_rfl
def auC:fK Tryz.prog dH pl rows Ds 107 25=true:=by kernel_rfl
def auF:fK Tryz.prog dH pl rows Ds 136 1=true:=by kernel_rfl
def auG:fK Tryz.prog dH pl rows Ds 137 11=true:=by kernel_rfl
def auL:fK Tryz.prog dH pl rows Ds 160 1=true:=by kernel_rfl
def auM:fK Tryz.prog dH pl rows Ds 161 7=true:=by kernel_rfl
def auP:fK Tryz.prog dH pl rows Ds 171 6=true:=by kernel_rfl
def auT:fK Tryz.prog dH pl rows Ds 185 2=true:=by kernel_rfl
def auX:fK Tryz.prog dH pl rows Ds 193 9=true:=by kernel_rfl
def au1:fK Tryz.prog dH pl rows Ds 208 5=true:=by kernel_rfl
def au6:fK Tryz.prog dH pl rows Ds 224 1=true:=by kernel_rfl
def w34_TTFFF:w34 [zz1,zz1,zz0,zz0,zz0]=true:=by kernel_rfl
def w34_TFFTFT:w34 [zz1,zz0,zz0,zz1,zz0,zz1]=true:=by kernel_rfl
def w34_TFFTFFF:w34 [zz1,zz0,zz0,zz1,zz0,zz0,zz0]=true:=by kernel_rfl
def w2_FFFFFT:w2 [zz0,zz0,zz0,zz0,zz0,zz1]=true:=by kernel_rfl
def w2_FFFFFFFFFT:w2 [zz0,zz0,zz0,zz0,zz0,zz0,zz0,zz0,zz0,zz1]=true:=by kernel_rfl
def w2_FFFFFFFFFFFFF:w2 [zz0,zz0,zz0,zz0,zz0,zz0,zz0,zz0,zz0,zz0,zz0,zz0,zz0]=true:=by kernel_rfl
