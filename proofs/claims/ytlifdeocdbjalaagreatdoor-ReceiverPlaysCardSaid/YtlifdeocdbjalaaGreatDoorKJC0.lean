/- Pieces of the checks of great trees. -/
import Derived.Test.YtlifdeocdbjalaaGreatDoorKJW
namespace Go.Proofs.YtlifdeocdbjalaaGreatDoor
open Go Go.aN
set_option maxRecDepth 100000
set_option linter.unusedVariables false
namespace J
theorem arN:yw [true,false,false,false,false,false]=true:=by kernel_rfl
theorem aq5:w1 [true,false,false,true,true,false,true,false,false,false]=true:=by kernel_rfl
theorem arw:nO [true,true,false,false,false,false,false,false,false,false,false,false,false,false,false]=true:=by kernel_rfl
theorem arH:nO [true,true,false,false,false,true]=true:=by kernel_rfl
theorem arE:nO [true,true,false,false,false,false,false,false,true]=true:=by kernel_rfl
theorem arB:nO [true,true,false,false,false,false,false,false,false,false,false,true]=true:=by kernel_rfl
theorem arx:nO [true,true,false,false,false,false,false,false,false,false,false,false,false,false,true]=true:=by kernel_rfl
theorem arv:nO [true,false]=true:=by kernel_rfl
theorem aro:w1 [true,false,false,true,true,true,true,true,true]=true:=by kernel_rfl
theorem ari:w1 [true,false,false,true,true,true,true,false,false,true]=true:=by kernel_rfl
theorem aq9:w1 [true,false,false,true,true,true,false,false]=true:=by kernel_rfl
theorem aq4:w1 [true,false,false,true,true,false,false,true]=true:=by kernel_rfl
theorem aqY:w1 [true,false,false,false,true]=true:=by kernel_rfl
theorem aqS:qF [true,false,true]=true:=by kernel_rfl
theorem aqM:qF [true,false,false,false,true]=true:=by kernel_rfl
end J
end Go.Proofs.YtlifdeocdbjalaaGreatDoor
