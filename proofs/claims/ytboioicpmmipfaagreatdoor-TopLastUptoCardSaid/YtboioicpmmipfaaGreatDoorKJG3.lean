/- The rows of definitions are as they say: the ways of the bodies, run by the kernel. -/
import Derived.Test.YtboioicpmmipfaaGreatDoorKJD
set_option linter.all false
namespace Go.Proofs.YtboioicpmmipfaaGreatDoor
open Go Go.aP
set_option maxRecDepth 100000
namespace J
def g0:fQ Tryz.prog dG pl rows Ds 0 3=true:=by kernel_rfl
def g3:fQ Tryz.prog dG pl rows Ds 3 1=true:=by kernel_rfl
def g63:fQ Tryz.prog dG pl rows Ds 63 3=true:=by kernel_rfl
def g80:fQ Tryz.prog dG pl rows Ds 80 1=true:=by kernel_rfl
def au8:fQ Tryz.prog dG pl rows Ds 110 1=true:=by kernel_rfl
def ava:fQ Tryz.prog dG pl rows Ds 112 11=true:=by kernel_rfl
def ave:fQ Tryz.prog dG pl rows Ds 134 12=true:=by kernel_rfl
def avf:fQ Tryz.prog dG pl rows Ds 146 1=true:=by kernel_rfl
def avi:fQ Tryz.prog dG pl rows Ds 180 34=true:=by kernel_rfl
def avk:fQ Tryz.prog dG pl rows Ds 217 1=true:=by kernel_rfl
def avl:fQ Tryz.prog dG pl rows Ds 218 7=true:=by kernel_rfl
def avo:fQ Tryz.prog dG pl rows Ds 231 4=true:=by kernel_rfl
def avu:fQ Tryz.prog dG pl rows Ds 255 4=true:=by kernel_rfl
def avx:fQ Tryz.prog dG pl rows Ds 269 1=true:=by kernel_rfl
def avA:fQ Tryz.prog dG pl rows Ds 287 1=true:=by kernel_rfl
def avD:fQ Tryz.prog dG pl rows Ds 289 3=true:=by kernel_rfl
def avN:fQ Tryz.prog dG pl rows Ds 311 6=true:=by kernel_rfl
