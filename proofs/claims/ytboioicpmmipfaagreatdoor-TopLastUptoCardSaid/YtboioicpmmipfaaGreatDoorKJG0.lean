/- The rows of definitions are as they say: the ways of the bodies, run by the kernel. -/
import Derived.Test.YtboioicpmmipfaaGreatDoorKJD
set_option linter.all false
namespace Go.Proofs.YtboioicpmmipfaaGreatDoor
open Go Go.aP
set_option maxRecDepth 100000
namespace J
def g68:fQ Tryz.prog dG pl rows Ds 68 1=true:=by kernel_rfl
def avb:fQ Tryz.prog dG pl rows Ds 123 7=true:=by kernel_rfl
def avc:fQ Tryz.prog dG pl rows Ds 130 3=true:=by kernel_rfl
def avd:fQ Tryz.prog dG pl rows Ds 133 1=true:=by kernel_rfl
def avq:fQ Tryz.prog dG pl rows Ds 244 2=true:=by kernel_rfl
def avy:fQ Tryz.prog dG pl rows Ds 270 8=true:=by kernel_rfl
def avz:fQ Tryz.prog dG pl rows Ds 278 9=true:=by kernel_rfl
def avE:fQ Tryz.prog dG pl rows Ds 292 3=true:=by kernel_rfl
def avH:fQ Tryz.prog dG pl rows Ds 298 5=true:=by kernel_rfl
def avJ:fQ Tryz.prog dG pl rows Ds 305 1=true:=by kernel_rfl
