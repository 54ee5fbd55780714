/- The examples of the chapters 18: each one run. -/
import Derived.Test.YtilkjidelblkfaaGreatDoorKPl
namespace Go.Proofs.YtilkjidelblkfaaGreatDoor
open Go.Abs
set_option maxRecDepth 100000
theorem run18 : isT (call plN 1000000 254 [] σ0) = true := by kernel_rfl
theorem run19 : isT (call pl18 1000000 252 [] σ0) = true := by kernel_rfl
theorem run20 : isT (call pl19 1000000 248 [] σ0) = true := by kernel_rfl
theorem run21 : isT (call pl20 1000000 246 [] σ0) = true := by kernel_rfl
theorem run22 : isT (call pl21 1000000 237 [] σ0) = true := by kernel_rfl
end Go.Proofs.YtilkjidelblkfaaGreatDoor
