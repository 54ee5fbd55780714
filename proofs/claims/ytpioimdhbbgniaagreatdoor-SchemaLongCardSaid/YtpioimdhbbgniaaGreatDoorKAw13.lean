/- The examples of the chapters 13, 14, 15: each one run. -/
import Derived.Test.YtpioimdhbbgniaaGreatDoorKPl
namespace Go.Proofs.YtpioimdhbbgniaaGreatDoor
open Go.aJ
set_option maxRecDepth 100000
theorem alh:kL (call U5 1000000 166 [] σ0)=true:=by kernel_rfl
theorem ali:kL (call U6 1000000 162 [] σ0)=true:=by kernel_rfl
theorem alj:kL (call U7 1000000 158 [] σ0)=true:=by kernel_rfl
end Go.Proofs.YtpioimdhbbgniaaGreatDoor
