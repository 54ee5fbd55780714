/- The rows of definitions are as they say: the ways of the bodies, run by the kernel. -/
import Derived.Test.YtboioicpmmipfaaGreatDoorKJD
set_option linter.all false
namespace Go.Proofs.YtboioicpmmipfaaGreatDoor
open Go Go.aP
set_option maxRecDepth 100000
namespace J
def g56:fQ Tryz.prog dG pl rows Ds 56 7=true:=by kernel_rfl
def g77:fQ Tryz.prog dG pl rows Ds 77 3=true:=by kernel_rfl
def g81:fQ Tryz.prog dG pl rows Ds 81 1=true:=by kernel_rfl
def au7:fQ Tryz.prog dG pl rows Ds 107 3=true:=by kernel_rfl
def au9:fQ Tryz.prog dG pl rows Ds 111 1=true:=by kernel_rfl
def avg:fQ Tryz.prog dG pl rows Ds 147 19=true:=by kernel_rfl
def avj:fQ Tryz.prog dG pl rows Ds 214 3=true:=by kernel_rfl
def avn:fQ Tryz.prog dG pl rows Ds 230 1=true:=by kernel_rfl
def avr:fQ Tryz.prog dG pl rows Ds 246 3=true:=by kernel_rfl
def avt:fQ Tryz.prog dG pl rows Ds 250 5=true:=by kernel_rfl
def avv:fQ Tryz.prog dG pl rows Ds 259 4=true:=by kernel_rfl
def avw:fQ Tryz.prog dG pl rows Ds 263 6=true:=by kernel_rfl
def avC:fQ Tryz.prog dG pl rows Ds 288 1=true:=by kernel_rfl
def avG:fQ Tryz.prog dG pl rows Ds 297 1=true:=by kernel_rfl
def avI:fQ Tryz.prog dG pl rows Ds 303 2=true:=by kernel_rfl
def avL:fQ Tryz.prog dG pl rows Ds 307 3=true:=by kernel_rfl
def avM:fQ Tryz.prog dG pl rows Ds 310 1=true:=by kernel_rfl
