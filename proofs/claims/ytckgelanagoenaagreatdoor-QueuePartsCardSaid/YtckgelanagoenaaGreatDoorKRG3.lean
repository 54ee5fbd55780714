/- Definitions keep their contracts: the ways of the bodies, run by the kernel. -/
import Derived.Test.YtckgelanagoenaaGreatDoorKRP
namespace Go.Proofs.YtckgelanagoenaaGreatDoor
open Go Go.Abs
set_option maxRecDepth 100000
set_option linter.unusedVariables false
set_option linter.unusedSimpArgs false
namespace R
theorem t9 : GoodC C d9 c9 := fun I hI gs out h =>
  FnS.of_tree low mixed names (pl_ok I hI) (specs := [(0, s10)]) (fuel := 100000) (c := code41) (pe := []) (sp := s9) rfl Tryz.func41 (by kernel_rfl) (SpecsOk.cons rfl (fun gs out h => hI 10 gs out h) SpecsOk.nil) (by kernel_rfl) h
theorem t12 : GoodC C d12 c12 := fun I hI gs out h =>
  LoopC.of_tree_at low mixed names (pl_ok I hI) (specs := []) (fuel := 100000) (sp := s12) (by kernel_rfl) rfl (ps := []) (b := b12) SpecsOk.nil (fun gs out h => hI 12 gs out h) (by kernel_rfl) h
theorem t14 : GoodC C d14 c14 := fun I hI gs out h =>
  FnS.of_tree low mixed names (pl_ok I hI) (specs := []) (fuel := 100000) (c := code112) (pe := []) (sp := s14) rfl Tryz.func112 (by kernel_rfl) SpecsOk.nil (by kernel_rfl) h
theorem t15 : GoodC C d15 c15 := fun I hI gs out h =>
  FnS.of_tree low mixed names (pl_ok I hI) (specs := [(0, s16)]) (fuel := 100000) (c := code158) (pe := []) (sp := s15) rfl Tryz.func158 (by kernel_rfl) (SpecsOk.cons rfl (fun gs out h => hI 16 gs out h) SpecsOk.nil) (by kernel_rfl) h
theorem t17 : GoodC C d17 c17 := fun I hI gs out h =>
  FnC.of_tree low mixed names (pl_ok I hI) (specs := [(0, s18)]) (fuel := 100000) (c := code16) (pe := []) Tryz.func16 (by kernel_rfl) (SpecsOk.cons rfl (fun gs out h => hI 18 gs out h) SpecsOk.nil) (by kernel_rfl) h
end R
end Go.Proofs.YtckgelanagoenaaGreatDoor
