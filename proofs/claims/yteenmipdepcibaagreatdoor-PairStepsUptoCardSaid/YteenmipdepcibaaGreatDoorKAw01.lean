/- The examples of the chapters: each one run. -/
import Derived.Test.YteenmipdepcibaaGreatDoorKPl
namespace Go.Proofs.YteenmipdepcibaaGreatDoor
open Go.aN
set_option maxRecDepth 100000
theorem awT:jP (call U5 1000000 357 [] J0)=true:=by kernel_rfl
theorem awU:jP (call Z9 1000000 355 [] J0)=true:=by kernel_rfl
theorem awV:jP (call aac 1000000 353 [] J0)=true:=by kernel_rfl
theorem awW:jP (call aad 1000000 351 [] J0)=true:=by kernel_rfl
theorem awX:jP (call aae 1000000 348 [] J0)=true:=by kernel_rfl
theorem awY:jP (call aaf 1000000 342 [] J0)=true:=by kernel_rfl
theorem awZ:jP (call aag 1000000 340 [] J0)=true:=by kernel_rfl
theorem aw0:jP (call aah 1000000 338 [] J0)=true:=by kernel_rfl
theorem aw1:jP (call aai 1000000 336 [] J0)=true:=by kernel_rfl
theorem aw2:jP (call aaj 1000000 329 [] J0)=true:=by kernel_rfl
theorem aw3:jP (call aak 1000000 312 [] J0)=true:=by kernel_rfl
theorem aw4:jP (call aal 1000000 285 [] J0)=true:=by kernel_rfl
theorem aw5:jP (call aam 1000000 279 [] J0)=true:=by kernel_rfl
theorem aw6:jP (call aan 1000000 276 [] J0)=true:=by kernel_rfl
theorem aw7:jP (call aao 1000000 274 [] J0)=true:=by kernel_rfl
theorem aw8:jP (call aap 1000000 272 [] J0)=true:=by kernel_rfl
theorem aw9:jP (call aaq 1000000 268 [] J0)=true:=by kernel_rfl
