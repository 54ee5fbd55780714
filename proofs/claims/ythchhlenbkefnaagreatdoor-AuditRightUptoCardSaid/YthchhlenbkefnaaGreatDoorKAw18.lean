/- The examples of the chapters: each one run. -/
import Derived.Test.YthchhlenbkefnaaGreatDoorKPl
namespace Go.Proofs.YthchhlenbkefnaaGreatDoor
open Go.aN
set_option maxRecDepth 100000
theorem aBg:jS (call KA 1000000 390 [] J0)=true:=by kernel_rfl
theorem aBh:jS (call ab7 1000000 388 [] J0)=true:=by kernel_rfl
theorem aBi:jS (call ab8 1000000 384 [] J0)=true:=by kernel_rfl
theorem aBj:jS (call ab9 1000000 382 [] J0)=true:=by kernel_rfl
theorem aBk:jS (call acd 1000000 379 [] J0)=true:=by kernel_rfl
