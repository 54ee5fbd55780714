/- The examples of the chapters: each one run. -/
import Derived.Test.YthchhlenbkefnaaGreatDoorKPl
namespace Go.Proofs.YthchhlenbkefnaaGreatDoor
open Go.aN
set_option maxRecDepth 100000
theorem aBl:jS (call ace 1000000 377 [] J0)=true:=by kernel_rfl
theorem aBm:jS (call acf 1000000 374 [] J0)=true:=by kernel_rfl
theorem aBn:jS (call acg 1000000 343 [] J0)=true:=by kernel_rfl
theorem aBo:jS (call ach 1000000 254 [] J0)=true:=by kernel_rfl
theorem aBp:jS (call aci 1000000 163 [] J0)=true:=by kernel_rfl
theorem aBq:jS (call acj 1000000 97 [] J0)=true:=by kernel_rfl
theorem aBr:jS (call acn 1000000 28 [] J0)=true:=by kernel_rfl
theorem akM:jS (call aco 1000000 4 [] J0)=true:=by kernel_rfl
