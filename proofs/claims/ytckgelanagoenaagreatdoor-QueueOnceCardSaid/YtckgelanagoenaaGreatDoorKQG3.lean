/- Definitions keep their contracts: the ways of the bodies, run by the kernel. -/
import Derived.Test.YtckgelanagoenaaGreatDoorKQP
namespace Go.Proofs.YtckgelanagoenaaGreatDoor
open Go Go.Abs
set_option maxRecDepth 100000
set_option linter.unusedVariables false
set_option linter.unusedSimpArgs false
namespace Q
theorem t1 : GoodC C d1 c1 := fun I hI gs out h =>
  LoopC.of_tree_at low mixed names (pl_ok I hI) (specs := []) (fuel := 100000) (sp := s1) (by kernel_rfl) rfl (ps := []) (b := b1) SpecsOk.nil (fun gs out h => hI 1 gs out h) (by kernel_rfl) h
theorem t7 : GoodC C d7 c7 := fun I hI gs out h =>
  FnS.of_tree low mixed names (pl_ok I hI) (specs := []) (fuel := 100000) (c := code111) (pe := []) (sp := s7) rfl Tryz.func111 (by kernel_rfl) SpecsOk.nil (by kernel_rfl) h
theorem t8 : GoodC C d8 c8 := fun I hI gs out h =>
  FnS.of_tree low mixed names (pl_ok I hI) (specs := [(0, s9)]) (fuel := 100000) (c := code41) (pe := []) (sp := s8) rfl Tryz.func41 (by kernel_rfl) (SpecsOk.cons rfl (fun gs out h => hI 9 gs out h) SpecsOk.nil) (by kernel_rfl) h
theorem t11 : GoodC C d11 c11 := fun I hI gs out h =>
  LoopC.of_tree_at low mixed names (pl_ok I hI) (specs := []) (fuel := 100000) (sp := s11) (by kernel_rfl) rfl (ps := []) (b := b11) SpecsOk.nil (fun gs out h => hI 11 gs out h) (by kernel_rfl) h
theorem t13 : GoodC C d13 c13 := fun I hI gs out h =>
  FnS.of_tree low mixed names (pl_ok I hI) (specs := []) (fuel := 100000) (c := code112) (pe := []) (sp := s13) rfl Tryz.func112 (by kernel_rfl) SpecsOk.nil (by kernel_rfl) h
end Q
end Go.Proofs.YtckgelanagoenaaGreatDoor
