/- The examples of the chapters 13 to 15. -/
import Derived.Test.YtjpgiloggpfehaaGreatDoorKRAw2
namespace Go.Proofs.YtjpgiloggpfehaaGreatDoor
open Go.Abs
set_option maxRecDepth 100000
theorem run13 : isT (call pl12 100000 15 [] σ0) = true := by kernel_rfl
noncomputable def pl13 : List (FuncId × PFn) := closed 15 :: pl12
theorem pl13_ok : ∀ p ∈ pl13, PrimOk Tryz.prog p.1 p.2 := closed_ok pl12_ok run13
theorem run14 : isT (call pl13 100000 31 [] σ0) = true := by kernel_rfl
noncomputable def pl14 : List (FuncId × PFn) := closed 31 :: pl13
theorem pl14_ok : ∀ p ∈ pl14, PrimOk Tryz.prog p.1 p.2 := closed_ok pl13_ok run14
theorem run15 : isT (call pl14 100000 49 [] σ0) = true := by kernel_rfl
noncomputable def pl15 : List (FuncId × PFn) := closed 49 :: pl14
theorem pl15_ok : ∀ p ∈ pl15, PrimOk Tryz.prog p.1 p.2 := closed_ok pl14_ok run15
end Go.Proofs.YtjpgiloggpfehaaGreatDoor
