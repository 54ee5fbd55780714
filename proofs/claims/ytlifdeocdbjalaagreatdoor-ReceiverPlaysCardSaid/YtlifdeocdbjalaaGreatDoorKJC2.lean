/- Pieces of the checks of great trees. -/
import Derived.Test.YtlifdeocdbjalaaGreatDoorKJW
namespace Go.Proofs.YtlifdeocdbjalaaGreatDoor
open Go Go.aN
set_option maxRecDepth 100000
set_option linter.unusedVariables false
namespace J
theorem arh:w1 [true,false,false,true,true,true,true,false,false,false]=true:=by kernel_rfl
theorem aqZ:w1 [true,false,false,true,false,false,false]=true:=by kernel_rfl
theorem aqK:qF [true,false,false,false,false,false,true]=true:=by kernel_rfl
theorem arP:yw [true,false,false,false,true]=true:=by kernel_rfl
theorem arK:nO [true,true,true]=true:=by kernel_rfl
theorem arI:nO [true,true,false,false,true]=true:=by kernel_rfl
theorem arF:nO [true,true,false,false,false,false,false,true]=true:=by kernel_rfl
theorem arC:nO [true,true,false,false,false,false,false,false,false,false,true]=true:=by kernel_rfl
theorem arz:nO [true,true,false,false,false,false,false,false,false,false,false,false,false,true]=true:=by kernel_rfl
theorem arR:yw [true,false,true]=true:=by kernel_rfl
theorem arq:w1 [true,true]=true:=by kernel_rfl
theorem arl:w1 [true,false,false,true,true,true,true,true,false,false,true]=true:=by kernel_rfl
theorem ard:w1 [true,false,false,true,true,true,false,true,false,true]=true:=by kernel_rfl
theorem aq7:w1 [true,false,false,true,true,false,true,false,true]=true:=by kernel_rfl
theorem aq1:w1 [true,false,false,true,false,true]=true:=by kernel_rfl
theorem aqV:w1 [false]=true:=by kernel_rfl
theorem aqQ:qF [true,false,false,true,false,true]=true:=by kernel_rfl
theorem aqI:qF [false]=true:=by kernel_rfl
end J
end Go.Proofs.YtlifdeocdbjalaaGreatDoor
