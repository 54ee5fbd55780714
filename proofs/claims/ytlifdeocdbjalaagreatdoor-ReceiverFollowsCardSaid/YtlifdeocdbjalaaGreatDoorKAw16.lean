/- The examples of the chapters 16, 17: each one run. -/
import Derived.Test.YtlifdeocdbjalaaGreatDoorKPl
namespace Go.Proofs.YtlifdeocdbjalaaGreatDoor
open Go.Abs
set_option maxRecDepth 100000
theorem run16 : isT (call pl15 1000000 261 [] σ0) = true := by kernel_rfl
theorem run17 : isT (call pl16 1000000 232 [] σ0) = true := by kernel_rfl
end Go.Proofs.YtlifdeocdbjalaaGreatDoor
