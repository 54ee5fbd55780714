/- The examples of the chapters: each one run. -/
import Derived.Test.YtkoclengoeonnaaGreatDoorKPl
namespace Go.Proofs.YtkoclengoeonnaaGreatDoor
open Go.aP
set_option maxRecDepth 100000
theorem ax7:jy (call aa8 1000000 403 [] J0)=true:=by kernel_rfl
theorem ax8:jy (call aa9 1000000 398 [] J0)=true:=by kernel_rfl
theorem ax9:jy (call abb 1000000 391 [] J0)=true:=by kernel_rfl
theorem aya:jy (call abd 1000000 340 [] J0)=true:=by kernel_rfl
theorem ayb:jy (call abe 1000000 300 [] J0)=true:=by kernel_rfl
theorem ayc:jy (call abf 1000000 235 [] J0)=true:=by kernel_rfl
theorem ayd:jy (call abg 1000000 142 [] J0)=true:=by kernel_rfl
theorem aye:jy (call abh 1000000 55 [] J0)=true:=by kernel_rfl
theorem ai7:jy (call abj 1000000 4 [] J0)=true:=by kernel_rfl
