/- The examples of the chapters: each one run. -/
import Derived.Test.YtkoclengoeonnaaGreatDoorKPl
namespace Go.Proofs.YtkoclengoeonnaaGreatDoor
open Go.aP
set_option maxRecDepth 100000
theorem axL:jy (call VK 1000000 456 [] J0)=true:=by kernel_rfl
theorem axM:jy (call aaO 1000000 454 [] J0)=true:=by kernel_rfl
theorem axN:jy (call aaP 1000000 452 [] J0)=true:=by kernel_rfl
theorem axO:jy (call aaQ 1000000 450 [] J0)=true:=by kernel_rfl
theorem axP:jy (call aaR 1000000 447 [] J0)=true:=by kernel_rfl
theorem axQ:jy (call aaS 1000000 441 [] J0)=true:=by kernel_rfl
theorem axR:jy (call aaT 1000000 439 [] J0)=true:=by kernel_rfl
theorem axS:jy (call aaU 1000000 437 [] J0)=true:=by kernel_rfl
theorem axT:jy (call aaV 1000000 435 [] J0)=true:=by kernel_rfl
theorem axU:jy (call aaW 1000000 428 [] J0)=true:=by kernel_rfl
theorem axV:jy (call aaX 1000000 417 [] J0)=true:=by kernel_rfl
theorem axW:jy (call aaY 1000000 408 [] J0)=true:=by kernel_rfl
theorem axX:jy (call aaZ 1000000 404 [] J0)=true:=by kernel_rfl
theorem axY:jy (call aa0 1000000 399 [] J0)=true:=by kernel_rfl
theorem axZ:jy (call aa1 1000000 392 [] J0)=true:=by kernel_rfl
theorem ax0:jy (call aa2 1000000 341 [] J0)=true:=by kernel_rfl
theorem ax1:jy (call aa3 1000000 305 [] J0)=true:=by kernel_rfl
