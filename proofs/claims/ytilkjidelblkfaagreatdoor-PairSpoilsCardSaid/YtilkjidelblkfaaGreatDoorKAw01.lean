/- The examples of the chapters 1, 2, 3, 4, 5, 6, 7, 8, 9, 10: each one run. -/
import Derived.Test.YtilkjidelblkfaaGreatDoorKPl
namespace Go.Proofs.YtilkjidelblkfaaGreatDoor
open Go.Abs
set_option maxRecDepth 100000
theorem run01 : isT (call primList 1000000 345 [] σ0) = true := by kernel_rfl
theorem run02 : isT (call pl01 1000000 343 [] σ0) = true := by kernel_rfl
theorem run03 : isT (call pl02 1000000 341 [] σ0) = true := by kernel_rfl
theorem run04 : isT (call pl03 1000000 339 [] σ0) = true := by kernel_rfl
theorem run05 : isT (call pl04 1000000 336 [] σ0) = true := by kernel_rfl
theorem run06 : isT (call pl05 1000000 330 [] σ0) = true := by kernel_rfl
theorem run07 : isT (call pl06 1000000 328 [] σ0) = true := by kernel_rfl
theorem run08 : isT (call pl07 1000000 326 [] σ0) = true := by kernel_rfl
theorem run09 : isT (call pl08 1000000 324 [] σ0) = true := by kernel_rfl
theorem run10 : isT (call pl09 1000000 317 [] σ0) = true := by kernel_rfl
theorem run11 : isT (call pl10 1000000 300 [] σ0) = true := by kernel_rfl
theorem run12 : isT (call pl11 1000000 273 [] σ0) = true := by kernel_rfl
theorem run13 : isT (call pl12 1000000 267 [] σ0) = true := by kernel_rfl
theorem run14 : isT (call pl13 1000000 264 [] σ0) = true := by kernel_rfl
theorem run15 : isT (call pl14 1000000 262 [] σ0) = true := by kernel_rfl
theorem run16 : isT (call pl15 1000000 260 [] σ0) = true := by kernel_rfl
theorem run17 : isT (call pl16 1000000 256 [] σ0) = true := by kernel_rfl
end Go.Proofs.YtilkjidelblkfaaGreatDoor
