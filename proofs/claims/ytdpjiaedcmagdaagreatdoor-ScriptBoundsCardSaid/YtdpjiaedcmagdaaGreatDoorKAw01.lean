/- The examples of the chapters 1, 2, 3, 4, 5, 6, 7, 8, 9, 10: each one run. -/
import Derived.Test.YtdpjiaedcmagdaaGreatDoorKPl
namespace Go.Proofs.YtdpjiaedcmagdaaGreatDoor
open Go.Abs
set_option maxRecDepth 100000
theorem run01 : isT (call primList 1000000 423 [] σ0) = true := by kernel_rfl
theorem run02 : isT (call pl01 1000000 421 [] σ0) = true := by kernel_rfl
theorem run03 : isT (call pl02 1000000 419 [] σ0) = true := by kernel_rfl
theorem run04 : isT (call pl03 1000000 417 [] σ0) = true := by kernel_rfl
theorem run05 : isT (call pl04 1000000 414 [] σ0) = true := by kernel_rfl
theorem run06 : isT (call pl05 1000000 408 [] σ0) = true := by kernel_rfl
theorem run07 : isT (call pl06 1000000 406 [] σ0) = true := by kernel_rfl
theorem run08 : isT (call pl07 1000000 404 [] σ0) = true := by kernel_rfl
theorem run09 : isT (call pl08 1000000 402 [] σ0) = true := by kernel_rfl
theorem run10 : isT (call pl09 1000000 395 [] σ0) = true := by kernel_rfl
end Go.Proofs.YtdpjiaedcmagdaaGreatDoor
