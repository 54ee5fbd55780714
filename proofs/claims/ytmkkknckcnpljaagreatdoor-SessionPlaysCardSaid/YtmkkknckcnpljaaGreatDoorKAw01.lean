/- The examples of the chapters: each one run. -/
import Derived.Test.YtmkkknckcnpljaaGreatDoorKPl
namespace Go.Proofs.YtmkkknckcnpljaaGreatDoor
open Go.aO
set_option maxRecDepth 100000
theorem ayP:kJ (call Vg 1000000 414 [] J0)=true:=by kernel_rfl
theorem ayQ:kJ (call aaw 1000000 412 [] J0)=true:=by kernel_rfl
theorem ayR:kJ (call aax 1000000 409 [] J0)=true:=by kernel_rfl
theorem ayS:kJ (call aay 1000000 404 [] J0)=true:=by kernel_rfl
theorem ayT:kJ (call aaz 1000000 394 [] J0)=true:=by kernel_rfl
theorem ayU:kJ (call aaA 1000000 388 [] J0)=true:=by kernel_rfl
theorem ayV:kJ (call aaB 1000000 386 [] J0)=true:=by kernel_rfl
theorem ayW:kJ (call aaC 1000000 384 [] J0)=true:=by kernel_rfl
theorem ayX:kJ (call aaD 1000000 382 [] J0)=true:=by kernel_rfl
theorem ayY:kJ (call aaE 1000000 375 [] J0)=true:=by kernel_rfl
theorem ayZ:kJ (call aaF 1000000 358 [] J0)=true:=by kernel_rfl
theorem ay0:kJ (call aaG 1000000 331 [] J0)=true:=by kernel_rfl
theorem ay1:kJ (call aaH 1000000 325 [] J0)=true:=by kernel_rfl
theorem ay2:kJ (call aaI 1000000 322 [] J0)=true:=by kernel_rfl
theorem ay3:kJ (call aaJ 1000000 320 [] J0)=true:=by kernel_rfl
theorem ay4:kJ (call aaK 1000000 318 [] J0)=true:=by kernel_rfl
theorem ay5:kJ (call aaL 1000000 314 [] J0)=true:=by kernel_rfl
