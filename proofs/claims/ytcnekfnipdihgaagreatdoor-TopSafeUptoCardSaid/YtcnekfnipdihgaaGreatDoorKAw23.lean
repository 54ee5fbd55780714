/- The examples of the chapters: each one run. -/
import Derived.Test.YtcnekfnipdihgaaGreatDoorKPl
namespace Go.Proofs.YtcnekfnipdihgaaGreatDoor
open Go.aP
set_option maxRecDepth 100000
theorem aBi:jR (call acO 1000000 402 [] J0)=true:=by kernel_rfl
theorem aBj:jR (call acP 1000000 397 [] J0)=true:=by kernel_rfl
theorem aBk:jR (call acQ 1000000 389 [] J0)=true:=by kernel_rfl
theorem aBl:jR (call acR 1000000 312 [] J0)=true:=by kernel_rfl
theorem aBm:jR (call acS 1000000 234 [] J0)=true:=by kernel_rfl
theorem aBn:jR (call acT 1000000 151 [] J0)=true:=by kernel_rfl
theorem aBo:jR (call acU 1000000 104 [] J0)=true:=by kernel_rfl
theorem aBp:jR (call acV 1000000 38 [] J0)=true:=by kernel_rfl
theorem alj:jR (call acW 1000000 4 [] J0)=true:=by kernel_rfl
