/- Definitions keep their contracts: the ways of the bodies, run by the kernel. -/
import Derived.Test.YtckgelanagoenaaGreatDoorKHAP
namespace Go.Proofs.YtckgelanagoenaaGreatDoor
open Go Go.Abs
set_option maxRecDepth 100000
set_option linter.unusedVariables false
set_option linter.unusedSimpArgs false
namespace HA
theorem t3 : GoodC C d3 c3 := fun I hI gs out h =>
  LoopC.of_tree_at low mixed names (pl_ok I hI) (specs := []) (fuel := 100000) (sp := s3) (by kernel_rfl) rfl (ps := []) (b := b3) SpecsOk.nil (fun gs out h => hI 3 gs out h) (by kernel_rfl) h
theorem t5 : GoodC C d5 c5 := fun I hI gs out h =>
  LoopC.of_tree_at low mixed names (pl_ok I hI) (specs := []) (fuel := 100000) (sp := s5) (by kernel_rfl) rfl (ps := []) (b := b5) SpecsOk.nil (fun gs out h => hI 5 gs out h) (by kernel_rfl) h
theorem t9 : GoodC C d9 c9 := fun I hI gs out h =>
  LoopC.of_tree_at low mixed names (pl_ok I hI) (specs := []) (fuel := 100000) (sp := s9) (by kernel_rfl) rfl (ps := []) (b := b9) SpecsOk.nil (fun gs out h => hI 9 gs out h) (by kernel_rfl) h
theorem t11 : GoodC C d11 c11 := fun I hI gs out h =>
  LoopC.of_tree_at low mixed names (pl_ok I hI) (specs := []) (fuel := 100000) (sp := s11) (by kernel_rfl) rfl (ps := []) (b := b11) SpecsOk.nil (fun gs out h => hI 11 gs out h) (by kernel_rfl) h
theorem t13 : GoodC C d13 c13 := fun I hI gs out h =>
  FnC.of_tree low mixed names (pl_ok I hI) (specs := [(0, s14)]) (fuel := 100000) (c := code57) (pe := []) Tryz.func57 (by kernel_rfl) (SpecsOk.cons rfl (fun gs out h => hI 14 gs out h) SpecsOk.nil) (by kernel_rfl) h
theorem t18 : GoodC C d18 c18 := fun I hI gs out h =>
  LoopC.of_tree_at low mixed names (pl_ok I hI) (specs := []) (fuel := 100000) (sp := s18) (by kernel_rfl) rfl (ps := []) (b := b18) SpecsOk.nil (fun gs out h => hI 18 gs out h) (by kernel_rfl) h
theorem t22 : GoodC C d22 c22 := fun I hI gs out h =>
  FnC.of_tree low mixed names (pl_ok I hI) (specs := []) (fuel := 100000) (c := code52) (pe := []) Tryz.func52 (by kernel_rfl) SpecsOk.nil (by kernel_rfl) h
end HA
end Go.Proofs.YtckgelanagoenaaGreatDoor
