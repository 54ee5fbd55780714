/- The examples of the chapters: each one run. -/
import Derived.Test.YtmkkknckcnpljaaGreatDoorKPl
namespace Go.Proofs.YtmkkknckcnpljaaGreatDoor
open Go.aO
set_option maxRecDepth 100000
theorem azb:kJ (call aaR 1000000 238 [] J0)=true:=by kernel_rfl
theorem azc:kJ (call aaS 1000000 155 [] J0)=true:=by kernel_rfl
theorem azd:kJ (call aaT 1000000 55 [] J0)=true:=by kernel_rfl
theorem aiY:kJ (call aaU 1000000 4 [] J0)=true:=by kernel_rfl
