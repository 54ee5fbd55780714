/- The rows of definitions are as they say: the ways of the bodies, run by the kernel. -/
import Derived.Test.YtboioicpmmipfaaGreatDoorKJD
set_option linter.all false
namespace Go.Proofs.YtboioicpmmipfaaGreatDoor
open Go Go.aP
set_option maxRecDepth 100000
namespace J
def g4:fQ Tryz.prog dG pl rows Ds 4 7=true:=by kernel_rfl
def g11:fQ Tryz.prog dG pl rows Ds 11 9=true:=by kernel_rfl
def g20:fQ Tryz.prog dG pl rows Ds 20 17=true:=by kernel_rfl
def g37:fQ Tryz.prog dG pl rows Ds 37 16=true:=by kernel_rfl
def g53:fQ Tryz.prog dG pl rows Ds 53 3=true:=by kernel_rfl
def g66:fQ Tryz.prog dG pl rows Ds 66 1=true:=by kernel_rfl
def g67:fQ Tryz.prog dG pl rows Ds 67 1=true:=by kernel_rfl
def g69:fQ Tryz.prog dG pl rows Ds 69 8=true:=by kernel_rfl
def g82:fQ Tryz.prog dG pl rows Ds 82 25=true:=by kernel_rfl
def avh:fQ Tryz.prog dG pl rows Ds 166 14=true:=by kernel_rfl
def avm:fQ Tryz.prog dG pl rows Ds 225 5=true:=by kernel_rfl
def avp:fQ Tryz.prog dG pl rows Ds 235 9=true:=by kernel_rfl
def avs:fQ Tryz.prog dG pl rows Ds 249 1=true:=by kernel_rfl
def avF:fQ Tryz.prog dG pl rows Ds 295 2=true:=by kernel_rfl
def avK:fQ Tryz.prog dG pl rows Ds 306 1=true:=by kernel_rfl
