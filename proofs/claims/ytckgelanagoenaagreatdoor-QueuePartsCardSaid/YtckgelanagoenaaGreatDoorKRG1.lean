/- Definitions keep their contracts: the ways of the bodies, run by the kernel. -/
import Derived.Test.YtckgelanagoenaaGreatDoorKRP
namespace Go.Proofs.YtckgelanagoenaaGreatDoor
open Go Go.Abs
set_option maxRecDepth 100000
set_option linter.unusedVariables false
set_option linter.unusedSimpArgs false
namespace R
theorem t6 : GoodC C d6 c6 := fun I hI gs out h =>
  FnS.of_tree low mixed names (pl_ok I hI) (specs := [(0, s7)]) (fuel := 100000) (c := code157) (pe := []) (sp := s6) rfl Tryz.func157 (by kernel_rfl) (SpecsOk.cons rfl (fun gs out h => hI 7 gs out h) SpecsOk.nil) (by kernel_rfl) h
theorem t7 : GoodC C d7 c7 := fun I hI gs out h =>
  LoopC.of_tree_at low mixed names (pl_ok I hI) (specs := []) (fuel := 100000) (sp := s7) (by kernel_rfl) rfl (ps := []) (b := b7) SpecsOk.nil (fun gs out h => hI 7 gs out h) (by kernel_rfl) h
theorem t10 : GoodC C d10 c10 := fun I hI gs out h =>
  LoopC.of_tree_at low mixed names (pl_ok I hI) (specs := []) (fuel := 100000) (sp := s10) (by kernel_rfl) rfl (ps := []) (b := b10) SpecsOk.nil (fun gs out h => hI 10 gs out h) (by kernel_rfl) h
theorem t11 : GoodC C d11 c11 := fun I hI gs out h =>
  FnS.of_tree low mixed names (pl_ok I hI) (specs := [(0, s12)]) (fuel := 100000) (c := code42) (pe := []) (sp := s11) rfl Tryz.func42 (by kernel_rfl) (SpecsOk.cons rfl (fun gs out h => hI 12 gs out h) SpecsOk.nil) (by kernel_rfl) h
theorem t13 : GoodC C d13 c13 := fun I hI gs out h =>
  FnS.of_tree low mixed names (pl_ok I hI) (specs := []) (fuel := 100000) (c := code43) (pe := []) (sp := s13) rfl Tryz.func43 (by kernel_rfl) SpecsOk.nil (by kernel_rfl) h
end R
end Go.Proofs.YtckgelanagoenaaGreatDoor
