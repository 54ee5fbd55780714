/- The examples of the chapters 18: each one run. -/
import Derived.Test.YtaggjpipnjmleaaGreatDoorKPl
namespace Go.Proofs.YtaggjpipnjmleaaGreatDoor
open Go.aJ
set_option maxRecDepth 100000
theorem apI:kY (call EH 1000000 105 [] σ0)=true:=by kernel_rfl
end Go.Proofs.YtaggjpipnjmleaaGreatDoor
