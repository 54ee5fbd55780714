/- Pieces of the checks of great trees. -/
import Derived.Test.YtlifdeocdbjalaaGreatDoorKJW
namespace Go.Proofs.YtlifdeocdbjalaaGreatDoor
open Go Go.aN
set_option maxRecDepth 100000
set_option linter.unusedVariables false
namespace J
theorem ara:w1 [true,false,false,true,true,true,false,true,false,false,false]=true:=by kernel_rfl
theorem aqW:w1 [true,false,false,false,false,false]=true:=by kernel_rfl
theorem aqN:qF [true,false,false,true,false,false,false,false]=true:=by kernel_rfl
theorem aqJ:qF [true,false,false,false,false,false,false]=true:=by kernel_rfl
theorem arM:yw [false]=true:=by kernel_rfl
theorem arp:w1 [true,false,true]=true:=by kernel_rfl
theorem arj:w1 [true,false,false,true,true,true,true,false,true]=true:=by kernel_rfl
theorem arb:w1 [true,false,false,true,true,true,false,true,false,false,true]=true:=by kernel_rfl
theorem aq6:w1 [true,false,false,true,true,false,true,false,false,true]=true:=by kernel_rfl
theorem aq0:w1 [true,false,false,true,false,false,true]=true:=by kernel_rfl
theorem aqT:qF [true,true]=true:=by kernel_rfl
theorem aqP:qF [true,false,false,true,false,false,true]=true:=by kernel_rfl
end J
end Go.Proofs.YtlifdeocdbjalaaGreatDoor
