/- Pieces of the checks of great trees. -/
import Derived.Test.YtlifdeocdbjalaaGreatDoorKJW
namespace Go.Proofs.YtlifdeocdbjalaaGreatDoor
open Go Go.aN
set_option maxRecDepth 100000
set_option linter.unusedVariables false
namespace J
theorem ark:w1 [true,false,false,true,true,true,true,true,false,false,false]=true:=by kernel_rfl
theorem aq2:w1 [true,false,false,true,true,false,false,false,false]=true:=by kernel_rfl
theorem aqO:qF [true,false,false,true,false,false,false,true]=true:=by kernel_rfl
theorem arQ:yw [true,false,false,true]=true:=by kernel_rfl
theorem arO:yw [true,false,false,false,false,true]=true:=by kernel_rfl
theorem arJ:nO [true,true,false,true]=true:=by kernel_rfl
theorem arG:nO [true,true,false,false,false,false,true]=true:=by kernel_rfl
theorem arD:nO [true,true,false,false,false,false,false,false,false,true]=true:=by kernel_rfl
theorem arA:nO [true,true,false,false,false,false,false,false,false,false,false,false,true]=true:=by kernel_rfl
theorem arS:yw [true,true]=true:=by kernel_rfl
theorem aru:nO [false]=true:=by kernel_rfl
theorem arn:w1 [true,false,false,true,true,true,true,true,false,true]=true:=by kernel_rfl
theorem arf:w1 [true,false,false,true,true,true,false,true,true]=true:=by kernel_rfl
theorem aq8:w1 [true,false,false,true,true,false,true,true]=true:=by kernel_rfl
theorem aq3:w1 [true,false,false,true,true,false,false,false,true]=true:=by kernel_rfl
theorem aqX:w1 [true,false,false,false,false,true]=true:=by kernel_rfl
theorem aqR:qF [true,false,false,true,true]=true:=by kernel_rfl
theorem aqL:qF [true,false,false,false,false,true]=true:=by kernel_rfl
end J
end Go.Proofs.YtlifdeocdbjalaaGreatDoor
