/- The examples of the chapters 18: each one run. -/
import Derived.Test.YtpioimdhbbgniaaGreatDoorKPl
namespace Go.Proofs.YtpioimdhbbgniaaGreatDoor
open Go.aJ
set_option maxRecDepth 100000
theorem aln:kL (call D7 1000000 50 [] σ0)=true:=by kernel_rfl
end Go.Proofs.YtpioimdhbbgniaaGreatDoor
