/- Definitions keep their contracts: the ways of the bodies, run by the kernel. -/
import Derived.Test.YtckgelanagoenaaGreatDoorKHAP
namespace Go.Proofs.YtckgelanagoenaaGreatDoor
open Go Go.Abs
set_option maxRecDepth 100000
set_option linter.unusedVariables false
set_option linter.unusedSimpArgs false
namespace HA
theorem t2 : GoodC C d2 c2 := fun I hI gs out h =>
  FnC.of_tree low mixed names (pl_ok I hI) (specs := [(0, s3)]) (fuel := 100000) (c := code55) (pe := []) Tryz.func55 (by kernel_rfl) (SpecsOk.cons rfl (fun gs out h => hI 3 gs out h) SpecsOk.nil) (by kernel_rfl) h
theorem t6 : GoodC C d6 c6 := fun I hI gs out h =>
  FnC.of_tree low mixed names (pl_ok I hI) (specs := [(0, s11)]) (fuel := 100000) (c := code80) (pe := []) Tryz.func80 (by kernel_rfl) (SpecsOk.cons rfl (fun gs out h => hI 11 gs out h) SpecsOk.nil) (by kernel_rfl) h
theorem t15 : GoodC C d15 c15 := fun I hI gs out h =>
  FnC.of_tree low mixed names (pl_ok I hI) (specs := []) (fuel := 100000) (c := code12) (pe := []) Tryz.func12 (by kernel_rfl) SpecsOk.nil (by kernel_rfl) h
theorem t17 : GoodC C d17 c17 := fun I hI gs out h =>
  FnC.of_tree low mixed names (pl_ok I hI) (specs := [(0, s18)]) (fuel := 100000) (c := code117) (pe := []) Tryz.func117 (by kernel_rfl) (SpecsOk.cons rfl (fun gs out h => hI 18 gs out h) SpecsOk.nil) (by kernel_rfl) h
theorem t19 : GoodC C d19 c19 := fun I hI gs out h =>
  FnC.of_tree low mixed names (pl_ok I hI) (specs := []) (fuel := 100000) (c := code50) (pe := []) Tryz.func50 (by kernel_rfl) SpecsOk.nil (by kernel_rfl) h
theorem t20 : GoodC C d20 c20 := fun I hI gs out h =>
  FnC.of_tree low mixed names (pl_ok I hI) (specs := []) (fuel := 100000) (c := code53) (pe := []) Tryz.func53 (by kernel_rfl) SpecsOk.nil (by kernel_rfl) h
theorem t21 : GoodC C d21 c21 := fun I hI gs out h =>
  FnC.of_tree low mixed names (pl_ok I hI) (specs := []) (fuel := 100000) (c := code51) (pe := []) Tryz.func51 (by kernel_rfl) SpecsOk.nil (by kernel_rfl) h
end HA
end Go.Proofs.YtckgelanagoenaaGreatDoor
