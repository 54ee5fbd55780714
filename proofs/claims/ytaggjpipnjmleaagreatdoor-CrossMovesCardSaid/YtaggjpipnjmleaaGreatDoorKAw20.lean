/- The examples of the chapters 20: each one run. -/
import Derived.Test.YtaggjpipnjmleaaGreatDoorKPl
namespace Go.Proofs.YtaggjpipnjmleaaGreatDoor
open Go.aJ
set_option maxRecDepth 100000
theorem ad3:kY (call WG 1000000 4 [] σ0)=true:=by kernel_rfl
end Go.Proofs.YtaggjpipnjmleaaGreatDoor
