/- The examples of the chapters: each one run. -/
import Derived.Test.YtmkkknckcnpljaaGreatDoorKPl
namespace Go.Proofs.YtmkkknckcnpljaaGreatDoor
open Go.aO
set_option maxRecDepth 100000
theorem ay6:kJ (call Jq 1000000 312 [] J0)=true:=by kernel_rfl
theorem ay7:kJ (call aaN 1000000 310 [] J0)=true:=by kernel_rfl
theorem ay8:kJ (call aaO 1000000 305 [] J0)=true:=by kernel_rfl
theorem ay9:kJ (call aaP 1000000 297 [] J0)=true:=by kernel_rfl
theorem aza:kJ (call aaQ 1000000 282 [] J0)=true:=by kernel_rfl
