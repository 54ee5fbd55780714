/- The examples of the chapters 13, 14, 15: each one run. -/
import Derived.Test.YtaggjpipnjmleaaGreatDoorKPl
namespace Go.Proofs.YtaggjpipnjmleaaGreatDoor
open Go.aJ
set_option maxRecDepth 100000
theorem apD:kY (call Wv 1000000 227 [] σ0)=true:=by kernel_rfl
theorem apE:kY (call Wx 1000000 223 [] σ0)=true:=by kernel_rfl
theorem apF:kY (call Wy 1000000 219 [] σ0)=true:=by kernel_rfl
end Go.Proofs.YtaggjpipnjmleaaGreatDoor
