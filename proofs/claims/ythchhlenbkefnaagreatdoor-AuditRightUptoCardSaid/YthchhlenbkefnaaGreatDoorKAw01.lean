/- The examples of the chapters: each one run. -/
import Derived.Test.YthchhlenbkefnaaGreatDoorKPl
namespace Go.Proofs.YthchhlenbkefnaaGreatDoor
open Go.aN
set_option maxRecDepth 100000
theorem aAY:jS (call Xc 1000000 450 [] J0)=true:=by kernel_rfl
theorem aAZ:jS (call abQ 1000000 448 [] J0)=true:=by kernel_rfl
theorem aA0:jS (call abR 1000000 446 [] J0)=true:=by kernel_rfl
theorem aA1:jS (call abS 1000000 444 [] J0)=true:=by kernel_rfl
theorem aA2:jS (call abT 1000000 441 [] J0)=true:=by kernel_rfl
theorem aA3:jS (call abU 1000000 435 [] J0)=true:=by kernel_rfl
theorem aA4:jS (call abV 1000000 433 [] J0)=true:=by kernel_rfl
theorem aA5:jS (call abW 1000000 431 [] J0)=true:=by kernel_rfl
theorem aA6:jS (call abX 1000000 429 [] J0)=true:=by kernel_rfl
theorem aA7:jS (call abY 1000000 422 [] J0)=true:=by kernel_rfl
theorem aA8:jS (call abZ 1000000 411 [] J0)=true:=by kernel_rfl
theorem aA9:jS (call ab1 1000000 405 [] J0)=true:=by kernel_rfl
theorem aBa:jS (call ab2 1000000 403 [] J0)=true:=by kernel_rfl
theorem aBb:jS (call ab3 1000000 400 [] J0)=true:=by kernel_rfl
theorem aBd:jS (call ab4 1000000 398 [] J0)=true:=by kernel_rfl
theorem aBe:jS (call ab5 1000000 396 [] J0)=true:=by kernel_rfl
theorem aBf:jS (call ab6 1000000 392 [] J0)=true:=by kernel_rfl
