/- Definitions keep their contracts: the ways of the bodies, run by the kernel. -/
import Derived.Test.YtckgelanagoenaaGreatDoorKQP
namespace Go.Proofs.YtckgelanagoenaaGreatDoor
open Go Go.Abs
set_option maxRecDepth 100000
set_option linter.unusedVariables false
set_option linter.unusedSimpArgs false
namespace Q
theorem t0 : GoodC C d0 c0 := fun I hI gs out h =>
  FnC.of_tree low mixed names (pl_ok I hI) (specs := [(0, s1), (1, s16), (2, s17)]) (fuel := 100000) (c := code6) (pe := []) Tryz.func6 (by kernel_rfl) (SpecsOk.cons rfl (fun gs out h => hI 1 gs out h) (SpecsOk.cons rfl (fun gs out h => hI 16 gs out h) (SpecsOk.cons rfl (fun gs out h => hI 17 gs out h) SpecsOk.nil))) (by kernel_rfl) h
theorem t9 : GoodC C d9 c9 := fun I hI gs out h =>
  LoopC.of_tree_at low mixed names (pl_ok I hI) (specs := []) (fuel := 100000) (sp := s9) (by kernel_rfl) rfl (ps := []) (b := b9) SpecsOk.nil (fun gs out h => hI 9 gs out h) (by kernel_rfl) h
theorem t10 : GoodC C d10 c10 := fun I hI gs out h =>
  FnS.of_tree low mixed names (pl_ok I hI) (specs := [(0, s11)]) (fuel := 100000) (c := code42) (pe := []) (sp := s10) rfl Tryz.func42 (by kernel_rfl) (SpecsOk.cons rfl (fun gs out h => hI 11 gs out h) SpecsOk.nil) (by kernel_rfl) h
theorem t17 : GoodC C d17 c17 := fun I hI gs out h =>
  LoopC.of_tree_at low mixed names (pl_ok I hI) (specs := []) (fuel := 100000) (sp := s17) (by kernel_rfl) rfl (ps := []) (b := b17) SpecsOk.nil (fun gs out h => hI 17 gs out h) (by kernel_rfl) h
end Q
end Go.Proofs.YtckgelanagoenaaGreatDoor
