/- Definitions keep their contracts: the ways of the bodies, run by the kernel. -/
import Derived.Test.YtamcdgfjjeldeaaGreatDoorKAP
namespace Go.Proofs.YtamcdgfjjeldeaaGreatDoor
open Go Go.Abs
set_option maxRecDepth 100000
set_option linter.unusedVariables false
set_option linter.unusedSimpArgs false
namespace A
theorem t1 : GoodC C d1 c1 := fun I hI gs out h =>
  FnC.of_tree low mixed names (pl_ok I hI) (specs := []) (fuel := 100000) (c := code73) (pe := []) Tryz.func73 (by kernel_rfl) SpecsOk.nil (by kernel_rfl) h
theorem t5 : GoodC C d5 c5 := fun I hI gs out h =>
  LoopC.of_tree_at low mixed names (pl_ok I hI) (specs := []) (fuel := 100000) (sp := s5) (by kernel_rfl) rfl (ps := []) (b := b5) SpecsOk.nil (fun gs out h => hI 5 gs out h) (by kernel_rfl) h
theorem t6 : GoodC C d6 c6 := fun I hI gs out h =>
  FnC.of_tree low mixed names (pl_ok I hI) (specs := [(0, s7)]) (fuel := 100000) (c := code74) (pe := []) Tryz.func74 (by kernel_rfl) (SpecsOk.cons rfl (fun gs out h => hI 7 gs out h) SpecsOk.nil) (by kernel_rfl) h
theorem t8 : GoodC C d8 c8 := fun I hI gs out h =>
  LoopC.of_tree_at low mixed names (pl_ok I hI) (specs := []) (fuel := 100000) (sp := s8) (by kernel_rfl) rfl (ps := []) (b := b8) SpecsOk.nil (fun gs out h => hI 8 gs out h) (by kernel_rfl) h
end A
end Go.Proofs.YtamcdgfjjeldeaaGreatDoor
