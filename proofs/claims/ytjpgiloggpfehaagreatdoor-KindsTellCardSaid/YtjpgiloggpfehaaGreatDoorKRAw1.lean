/- The examples of the chapters 1 to 10: each one run. -/
import Derived.Test.YtjpgiloggpfehaaGreatDoorKRBase
namespace Go.Proofs.YtjpgiloggpfehaaGreatDoor
open Go.Abs
set_option maxRecDepth 100000
theorem run01 : isT (call primList 100000 288 [] σ0) = true := by kernel_rfl
noncomputable def pl01 : List (FuncId × PFn) := closed 288 :: primList
theorem pl01_ok : ∀ p ∈ pl01, PrimOk Tryz.prog p.1 p.2 := closed_ok primList_ok run01
theorem run02 : isT (call pl01 100000 286 [] σ0) = true := by kernel_rfl
noncomputable def pl02 : List (FuncId × PFn) := closed 286 :: pl01
theorem pl02_ok : ∀ p ∈ pl02, PrimOk Tryz.prog p.1 p.2 := closed_ok pl01_ok run02
theorem run03 : isT (call pl02 100000 281 [] σ0) = true := by kernel_rfl
noncomputable def pl03 : List (FuncId × PFn) := closed 281 :: pl02
theorem pl03_ok : ∀ p ∈ pl03, PrimOk Tryz.prog p.1 p.2 := closed_ok pl02_ok run03
theorem run04 : isT (call pl03 100000 276 [] σ0) = true := by kernel_rfl
noncomputable def pl04 : List (FuncId × PFn) := closed 276 :: pl03
theorem pl04_ok : ∀ p ∈ pl04, PrimOk Tryz.prog p.1 p.2 := closed_ok pl03_ok run04
theorem run05 : isT (call pl04 100000 266 [] σ0) = true := by kernel_rfl
noncomputable def pl05 : List (FuncId × PFn) := closed 266 :: pl04
theorem pl05_ok : ∀ p ∈ pl05, PrimOk Tryz.prog p.1 p.2 := closed_ok pl04_ok run05
theorem run06 : isT (call pl05 100000 260 [] σ0) = true := by kernel_rfl
noncomputable def pl06 : List (FuncId × PFn) := closed 260 :: pl05
theorem pl06_ok : ∀ p ∈ pl06, PrimOk Tryz.prog p.1 p.2 := closed_ok pl05_ok run06
theorem run07 : isT (call pl06 100000 258 [] σ0) = true := by kernel_rfl
noncomputable def pl07 : List (FuncId × PFn) := closed 258 :: pl06
theorem pl07_ok : ∀ p ∈ pl07, PrimOk Tryz.prog p.1 p.2 := closed_ok pl06_ok run07
theorem run08 : isT (call pl07 100000 251 [] σ0) = true := by kernel_rfl
noncomputable def pl08 : List (FuncId × PFn) := closed 251 :: pl07
theorem pl08_ok : ∀ p ∈ pl08, PrimOk Tryz.prog p.1 p.2 := closed_ok pl07_ok run08
theorem run09 : isT (call pl08 100000 234 [] σ0) = true := by kernel_rfl
noncomputable def pl09 : List (FuncId × PFn) := closed 234 :: pl08
theorem pl09_ok : ∀ p ∈ pl09, PrimOk Tryz.prog p.1 p.2 := closed_ok pl08_ok run09
theorem run10 : isT (call pl09 100000 215 [] σ0) = true := by kernel_rfl
noncomputable def pl10 : List (FuncId × PFn) := closed 215 :: pl09
theorem pl10_ok : ∀ p ∈ pl10, PrimOk Tryz.prog p.1 p.2 := closed_ok pl09_ok run10
end Go.Proofs.YtjpgiloggpfehaaGreatDoor
