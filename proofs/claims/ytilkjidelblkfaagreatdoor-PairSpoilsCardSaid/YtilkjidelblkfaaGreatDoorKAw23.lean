/- The examples of the chapters 23: each one run. -/
import Derived.Test.YtilkjidelblkfaaGreatDoorKPl
namespace Go.Proofs.YtilkjidelblkfaaGreatDoor
open Go.Abs
set_option maxRecDepth 100000
theorem run23 : isT (call pl22 1000000 197 [] σ0) = true := by kernel_rfl
theorem run24 : isT (call pl23 1000000 126 [] σ0) = true := by kernel_rfl
theorem run25 : isT (call pl24 1000000 50 [] σ0) = true := by kernel_rfl
theorem run26 : isT (call pl25 1000000 5 [] σ0) = true := by kernel_rfl
theorem run27 : isT (call pl26 1000000 14 [] σ0) = true := by kernel_rfl
end Go.Proofs.YtilkjidelblkfaaGreatDoor
