/- The examples of the chapters: each one run. -/
import Derived.Test.YtcnekfnipdihgaaGreatDoorKPl
namespace Go.Proofs.YtcnekfnipdihgaaGreatDoor
open Go.aP
set_option maxRecDepth 100000
theorem aAV:jR (call XK 1000000 455 [] J0)=true:=by kernel_rfl
theorem aAW:jR (call acs 1000000 453 [] J0)=true:=by kernel_rfl
theorem aAX:jR (call acu 1000000 451 [] J0)=true:=by kernel_rfl
theorem aAY:jR (call acv 1000000 449 [] J0)=true:=by kernel_rfl
theorem aAZ:jR (call acw 1000000 446 [] J0)=true:=by kernel_rfl
theorem aA0:jR (call acy 1000000 440 [] J0)=true:=by kernel_rfl
theorem aA1:jR (call acz 1000000 438 [] J0)=true:=by kernel_rfl
theorem aA2:jR (call acA 1000000 436 [] J0)=true:=by kernel_rfl
theorem aA3:jR (call acB 1000000 434 [] J0)=true:=by kernel_rfl
theorem aA4:jR (call acC 1000000 427 [] J0)=true:=by kernel_rfl
theorem aA5:jR (call acD 1000000 416 [] J0)=true:=by kernel_rfl
theorem aA6:jR (call acE 1000000 407 [] J0)=true:=by kernel_rfl
theorem aA7:jR (call acF 1000000 403 [] J0)=true:=by kernel_rfl
theorem aA8:jR (call acG 1000000 398 [] J0)=true:=by kernel_rfl
theorem aA9:jR (call acH 1000000 391 [] J0)=true:=by kernel_rfl
theorem aBa:jR (call acI 1000000 333 [] J0)=true:=by kernel_rfl
theorem aBb:jR (call acJ 1000000 261 [] J0)=true:=by kernel_rfl
