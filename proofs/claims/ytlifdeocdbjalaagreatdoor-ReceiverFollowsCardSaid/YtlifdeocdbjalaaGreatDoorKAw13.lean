/- The examples of the chapters 13, 14, 15: each one run. -/
import Derived.Test.YtlifdeocdbjalaaGreatDoorKPl
namespace Go.Proofs.YtlifdeocdbjalaaGreatDoor
open Go.Abs
set_option maxRecDepth 100000
theorem run13 : isT (call pl12 1000000 273 [] σ0) = true := by kernel_rfl
theorem run14 : isT (call pl13 1000000 270 [] σ0) = true := by kernel_rfl
theorem run15 : isT (call pl14 1000000 268 [] σ0) = true := by kernel_rfl
end Go.Proofs.YtlifdeocdbjalaaGreatDoor
