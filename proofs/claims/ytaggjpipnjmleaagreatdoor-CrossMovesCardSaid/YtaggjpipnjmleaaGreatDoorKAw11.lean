/- The examples of the chapters 11, 12: each one run. -/
import Derived.Test.YtaggjpipnjmleaaGreatDoorKPl
namespace Go.Proofs.YtaggjpipnjmleaaGreatDoor
open Go.aJ
set_option maxRecDepth 100000
theorem apB:kY (call Ws 1000000 260 [] σ0)=true:=by kernel_rfl
theorem apC:kY (call Wu 1000000 233 [] σ0)=true:=by kernel_rfl
end Go.Proofs.YtaggjpipnjmleaaGreatDoor
