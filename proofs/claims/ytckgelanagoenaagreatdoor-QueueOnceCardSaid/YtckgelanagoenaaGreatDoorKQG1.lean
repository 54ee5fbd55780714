/- Definitions keep their contracts: the ways of the bodies, run by the kernel. -/
import Derived.Test.YtckgelanagoenaaGreatDoorKQP
namespace Go.Proofs.YtckgelanagoenaaGreatDoor
open Go Go.Abs
set_option maxRecDepth 100000
set_option linter.unusedVariables false
set_option linter.unusedSimpArgs false
namespace Q
theorem t5 : GoodC C d5 c5 := fun I hI gs out h =>
  FnS.of_tree low mixed names (pl_ok I hI) (specs := [(0, s6)]) (fuel := 100000) (c := code157) (pe := []) (sp := s5) rfl Tryz.func157 (by kernel_rfl) (SpecsOk.cons rfl (fun gs out h => hI 6 gs out h) SpecsOk.nil) (by kernel_rfl) h
theorem t6 : GoodC C d6 c6 := fun I hI gs out h =>
  LoopC.of_tree_at low mixed names (pl_ok I hI) (specs := []) (fuel := 100000) (sp := s6) (by kernel_rfl) rfl (ps := []) (b := b6) SpecsOk.nil (fun gs out h => hI 6 gs out h) (by kernel_rfl) h
theorem t12 : GoodC C d12 c12 := fun I hI gs out h =>
  FnS.of_tree low mixed names (pl_ok I hI) (specs := []) (fuel := 100000) (c := code43) (pe := []) (sp := s12) rfl Tryz.func43 (by kernel_rfl) SpecsOk.nil (by kernel_rfl) h
theorem t14 : GoodC C d14 c14 := fun I hI gs out h =>
  FnS.of_tree low mixed names (pl_ok I hI) (specs := [(0, s15)]) (fuel := 100000) (c := code158) (pe := []) (sp := s14) rfl Tryz.func158 (by kernel_rfl) (SpecsOk.cons rfl (fun gs out h => hI 15 gs out h) SpecsOk.nil) (by kernel_rfl) h
theorem t16 : GoodC C d16 c16 := fun I hI gs out h =>
  LoopC.of_tree_at low mixed names (pl_ok I hI) (specs := []) (fuel := 100000) (sp := s16) (by kernel_rfl) rfl (ps := []) (b := b16) SpecsOk.nil (fun gs out h => hI 16 gs out h) (by kernel_rfl) h
end Q
end Go.Proofs.YtckgelanagoenaaGreatDoor
