/- The examples of the chapters 16 and 17. -/
import Derived.Test.YtjpgiloggpfehaaGreatDoorKRAw3
namespace Go.Proofs.YtjpgiloggpfehaaGreatDoor
open Go.Abs
set_option maxRecDepth 100000
theorem run16 : isT (call pl15 100000 56 [] σ0) = true := by kernel_rfl
noncomputable def pl16 : List (FuncId × PFn) := closed 56 :: pl15
theorem pl16_ok : ∀ p ∈ pl16, PrimOk Tryz.prog p.1 p.2 := closed_ok pl15_ok run16
theorem run17 : isT (call pl16 100000 72 [] σ0) = true := by kernel_rfl
noncomputable def pl17 : List (FuncId × PFn) := closed 72 :: pl16
theorem pl17_ok : ∀ p ∈ pl17, PrimOk Tryz.prog p.1 p.2 := closed_ok pl16_ok run17
end Go.Proofs.YtjpgiloggpfehaaGreatDoor
