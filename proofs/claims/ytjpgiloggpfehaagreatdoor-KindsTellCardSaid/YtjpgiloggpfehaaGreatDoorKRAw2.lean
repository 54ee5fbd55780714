/- The examples of the chapters 11 and 12. -/
import Derived.Test.YtjpgiloggpfehaaGreatDoorKRAw1
namespace Go.Proofs.YtjpgiloggpfehaaGreatDoor
open Go.Abs
set_option maxRecDepth 100000
theorem run11 : isT (call pl10 100000 190 [] σ0) = true := by kernel_rfl
noncomputable def pl11 : List (FuncId × PFn) := closed 190 :: pl10
theorem pl11_ok : ∀ p ∈ pl11, PrimOk Tryz.prog p.1 p.2 := closed_ok pl10_ok run11
theorem run12 : isT (call pl11 100000 126 [] σ0) = true := by kernel_rfl
noncomputable def pl12 : List (FuncId × PFn) := closed 126 :: pl11
theorem pl12_ok : ∀ p ∈ pl12, PrimOk Tryz.prog p.1 p.2 := closed_ok pl11_ok run12
end Go.Proofs.YtjpgiloggpfehaaGreatDoor
