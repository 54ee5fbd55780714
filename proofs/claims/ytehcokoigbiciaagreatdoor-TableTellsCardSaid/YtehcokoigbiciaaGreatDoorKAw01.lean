/- The examples of the chapters 1, 2, 3, 4, 5, 6, 7, 8, 9, 10: each one run. -/
import Derived.Test.YtehcokoigbiciaaGreatDoorKPl
namespace Go.Proofs.YtehcokoigbiciaaGreatDoor
open Go.Abs
set_option maxRecDepth 100000
theorem run01 : isT (call primList 1000000 182 [] σ0) = true := by kernel_rfl
theorem run02 : isT (call pl01 1000000 180 [] σ0) = true := by kernel_rfl
theorem run03 : isT (call pl02 1000000 175 [] σ0) = true := by kernel_rfl
theorem run04 : isT (call pl03 1000000 170 [] σ0) = true := by kernel_rfl
theorem run05 : isT (call pl04 1000000 159 [] σ0) = true := by kernel_rfl
theorem run06 : isT (call pl05 1000000 153 [] σ0) = true := by kernel_rfl
theorem run07 : isT (call pl06 1000000 151 [] σ0) = true := by kernel_rfl
theorem run08 : isT (call pl07 1000000 144 [] σ0) = true := by kernel_rfl
theorem run09 : isT (call pl08 1000000 126 [] σ0) = true := by kernel_rfl
theorem run10 : isT (call pl09 1000000 105 [] σ0) = true := by kernel_rfl
end Go.Proofs.YtehcokoigbiciaaGreatDoor
