/- Definitions keep their contracts: the ways of the bodies, run by the kernel. -/
import Derived.Test.YtamcdgfjjeldeaaGreatDoorKFP
namespace Go.Proofs.YtamcdgfjjeldeaaGreatDoor
open Go Go.Abs
set_option maxRecDepth 100000
set_option linter.unusedVariables false
set_option linter.unusedSimpArgs false
namespace F
theorem t7 : GoodC C d7 c7 := fun I hI gs out h =>
  LoopC.of_tree_at low mixed names (pl_ok I hI) (specs := []) (fuel := 100000) (sp := s7) (by kernel_rfl) rfl (ps := []) (b := b7) SpecsOk.nil (fun gs out h => hI 7 gs out h) (by kernel_rfl) h
theorem t15 : GoodC C d15 c15 := fun I hI gs out h =>
  FnS.of_tree low mixed names (pl_ok I hI) (specs := []) (fuel := 100000) (c := code38) (pe := []) (sp := s15) rfl Tryz.func38 (by kernel_rfl) SpecsOk.nil (by kernel_rfl) h
theorem t20 : GoodC C d20 c20 := fun I hI gs out h =>
  LoopC.of_tree_at low mixed names (pl_ok I hI) (specs := []) (fuel := 100000) (sp := s20) (by kernel_rfl) rfl (ps := []) (b := b20) SpecsOk.nil (fun gs out h => hI 20 gs out h) (by kernel_rfl) h
theorem t21 : GoodC C d21 c21 := fun I hI gs out h =>
  FnC.of_tree low mixed names (pl_ok I hI) (specs := [(0, s22)]) (fuel := 100000) (c := code46) (pe := []) Tryz.func46 (by kernel_rfl) (SpecsOk.cons rfl (fun gs out h => hI 22 gs out h) SpecsOk.nil) (by kernel_rfl) h
theorem t24 : GoodC C d24 c24 := fun I hI gs out h =>
  FnC.of_tree low mixed names (pl_ok I hI) (specs := [(0, s25)]) (fuel := 100000) (c := code47) (pe := []) Tryz.func47 (by kernel_rfl) (SpecsOk.cons rfl (fun gs out h => hI 25 gs out h) SpecsOk.nil) (by kernel_rfl) h
end F
end Go.Proofs.YtamcdgfjjeldeaaGreatDoor
