/- The examples of the chapters 1, 2, 3, 4, 5, 6, 7, 8, 9, 10: each one run. -/
import Derived.Test.YtlifdeocdbjalaaGreatDoorKPl
namespace Go.Proofs.YtlifdeocdbjalaaGreatDoor
open Go.Abs
set_option maxRecDepth 100000
theorem run01 : isT (call primList 1000000 362 [] σ0) = true := by kernel_rfl
theorem run02 : isT (call pl01 1000000 360 [] σ0) = true := by kernel_rfl
theorem run03 : isT (call pl02 1000000 357 [] σ0) = true := by kernel_rfl
theorem run04 : isT (call pl03 1000000 352 [] σ0) = true := by kernel_rfl
theorem run05 : isT (call pl04 1000000 342 [] σ0) = true := by kernel_rfl
theorem run06 : isT (call pl05 1000000 336 [] σ0) = true := by kernel_rfl
theorem run07 : isT (call pl06 1000000 334 [] σ0) = true := by kernel_rfl
theorem run08 : isT (call pl07 1000000 332 [] σ0) = true := by kernel_rfl
theorem run09 : isT (call pl08 1000000 330 [] σ0) = true := by kernel_rfl
theorem run10 : isT (call pl09 1000000 323 [] σ0) = true := by kernel_rfl
end Go.Proofs.YtlifdeocdbjalaaGreatDoor
