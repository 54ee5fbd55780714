/- The examples of the chapters 16, 17: each one run. -/
import Derived.Test.YtaggjpipnjmleaaGreatDoorKPl
namespace Go.Proofs.YtaggjpipnjmleaaGreatDoor
open Go.aJ
set_option maxRecDepth 100000
theorem apG:kY (call WA 1000000 209 [] σ0)=true:=by kernel_rfl
theorem apH:kY (call WB 1000000 167 [] σ0)=true:=by kernel_rfl
end Go.Proofs.YtaggjpipnjmleaaGreatDoor
