/- Definitions keep their contracts: the ways of the bodies, run by the kernel. -/
import Derived.Test.YtamcdgfjjeldeaaGreatDoorKFP
namespace Go.Proofs.YtamcdgfjjeldeaaGreatDoor
open Go Go.Abs
set_option maxRecDepth 100000
set_option linter.unusedVariables false
set_option linter.unusedSimpArgs false
namespace F
theorem t3 : GoodC C d3 c3 := fun I hI gs out h =>
  FnC.of_tree low mixed names (pl_ok I hI) (specs := [(0, s12)]) (fuel := 100000) (c := code33) (pe := [0]) Tryz.func33 (by kernel_rfl) (SpecsOk.cons rfl (fun gs out h => hI 12 gs out h) SpecsOk.nil) (by kernel_rfl) h
theorem t6 : GoodC C d6 c6 := fun I hI gs out h =>
  FnC.of_tree low mixed names (pl_ok I hI) (specs := [(0, s7)]) (fuel := 100000) (c := code42) (pe := []) Tryz.func42 (by kernel_rfl) (SpecsOk.cons rfl (fun gs out h => hI 7 gs out h) SpecsOk.nil) (by kernel_rfl) h
theorem t13 : GoodC C d13 c13 := fun I hI gs out h =>
  FnC.of_tree low mixed names (pl_ok I hI) (specs := [(0, s14)]) (fuel := 100000) (c := code35) (pe := []) Tryz.func35 (by kernel_rfl) (SpecsOk.cons rfl (fun gs out h => hI 14 gs out h) SpecsOk.nil) (by kernel_rfl) h
theorem t16 : GoodC C d16 c16 := fun I hI gs out h =>
  FnS.of_tree low mixed names (pl_ok I hI) (specs := []) (fuel := 100000) (c := code96) (pe := []) (sp := s16) rfl Tryz.func96 (by kernel_rfl) SpecsOk.nil (by kernel_rfl) h
theorem t18 : GoodC C d18 c18 := fun I hI gs out h =>
  LoopC.of_tree_at low mixed names (pl_ok I hI) (specs := []) (fuel := 100000) (sp := s18) (by kernel_rfl) rfl (ps := []) (b := b18) SpecsOk.nil (fun gs out h => hI 18 gs out h) (by kernel_rfl) h
theorem t19 : GoodC C d19 c19 := fun I hI gs out h =>
  FnC.of_tree low mixed names (pl_ok I hI) (specs := [(0, s20)]) (fuel := 100000) (c := code40) (pe := []) Tryz.func40 (by kernel_rfl) (SpecsOk.cons rfl (fun gs out h => hI 20 gs out h) SpecsOk.nil) (by kernel_rfl) h
theorem t26 : GoodC C d26 c26 := fun I hI gs out h =>
  LoopC.of_tree_at low mixed names (pl_ok I hI) (specs := []) (fuel := 100000) (sp := s26) (by kernel_rfl) rfl (ps := []) (b := b26) SpecsOk.nil (fun gs out h => hI 26 gs out h) (by kernel_rfl) h
end F
end Go.Proofs.YtamcdgfjjeldeaaGreatDoor
