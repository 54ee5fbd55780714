/- Definitions keep their contracts: the ways of the bodies, run by the kernel. -/
import Derived.Test.YtamcdgfjjeldeaaGreatDoorKCP
namespace Go.Proofs.YtamcdgfjjeldeaaGreatDoor
open Go Go.Abs
set_option maxRecDepth 100000
set_option linter.unusedVariables false
set_option linter.unusedSimpArgs false
namespace C
theorem t0 : GoodC C d0 c0 := fun _ _ _ _ h => h
theorem t4 : GoodC C d4 c4 := fun I hI gs out h =>
  FnC.of_tree low mixed names (pl_ok I hI) (specs := [(0, s5)]) (fuel := 100000) (c := code22) (pe := []) Tryz.func22 (by kernel_rfl) (SpecsOk.cons rfl (fun gs out h => hI 5 gs out h) SpecsOk.nil) (by kernel_rfl) h
theorem t9 : GoodC C d9 c9 := fun I hI gs out h =>
  LoopC.of_tree_at low mixed names (pl_ok I hI) (specs := []) (fuel := 100000) (sp := s9) (by kernel_rfl) rfl (ps := []) (b := b9) SpecsOk.nil (fun gs out h => hI 9 gs out h) (by kernel_rfl) h
theorem t14 : GoodC C d14 c14 := fun I hI gs out h =>
  LoopC.of_tree_at low mixed names (pl_ok I hI) (specs := []) (fuel := 100000) (sp := s14) (by kernel_rfl) rfl (ps := []) (b := b14) SpecsOk.nil (fun gs out h => hI 14 gs out h) (by kernel_rfl) h
theorem t16 : GoodC C d16 c16 := fun I hI gs out h =>
  FnC.of_tree low mixed names (pl_ok I hI) (specs := [(0, s17)]) (fuel := 100000) (c := code117) (pe := []) Tryz.func117 (by kernel_rfl) (SpecsOk.cons rfl (fun gs out h => hI 17 gs out h) SpecsOk.nil) (by kernel_rfl) h
theorem t17 : GoodC C d17 c17 := fun I hI gs out h =>
  LoopC.of_tree_at low mixed names (pl_ok I hI) (specs := []) (fuel := 100000) (sp := s17) (by kernel_rfl) rfl (ps := []) (b := b17) SpecsOk.nil (fun gs out h => hI 17 gs out h) (by kernel_rfl) h
theorem t19 : GoodC C d19 c19 := fun I hI gs out h =>
  FnC.of_tree low mixed names (pl_ok I hI) (specs := []) (fuel := 100000) (c := code177) (pe := []) Tryz.func177 (by kernel_rfl) SpecsOk.nil (by kernel_rfl) h
theorem t21 : GoodC C d21 c21 := fun _ _ _ _ h => valid_ok h
theorem t26 : GoodC C d26 c26 := fun I hI gs out h =>
  LoopC.of_tree_at low mixed names (pl_ok I hI) (specs := []) (fuel := 100000) (sp := s26) (by kernel_rfl) rfl (ps := []) (b := b26) SpecsOk.nil (fun gs out h => hI 26 gs out h) (by kernel_rfl) h
theorem t33 : GoodC C d33 c33 := fun I hI gs out h =>
  FnC.of_tree low mixed names (pl_ok I hI) (specs := [(0, s34)]) (fuel := 100000) (c := code4) (pe := []) Tryz.func4 (by kernel_rfl) (SpecsOk.cons rfl (fun gs out h => hI 34 gs out h) SpecsOk.nil) (by kernel_rfl) h
theorem t37 : GoodC C d37 c37 := fun I hI gs out h =>
  FnC.of_tree low mixed names (pl_ok I hI) (specs := [(0, s38)]) (fuel := 100000) (c := code21) (pe := []) Tryz.func21 (by kernel_rfl) (SpecsOk.cons rfl (fun gs out h => hI 38 gs out h) SpecsOk.nil) (by kernel_rfl) h
theorem t39 : GoodC C d39 c39 := fun I hI gs out h =>
  FnC.of_tree low mixed names (pl_ok I hI) (specs := []) (fuel := 100000) (c := code10) (pe := [1]) Tryz.func10 (by kernel_rfl) SpecsOk.nil (by kernel_rfl) h
theorem t40 : GoodC C d40 c40 := fun I hI gs out h =>
  FnC.of_tree low mixed names (pl_ok I hI) (specs := []) (fuel := 100000) (c := code57) (pe := []) Tryz.func57 (by kernel_rfl) SpecsOk.nil (by kernel_rfl) h
theorem t49 : GoodC C d49 c49 := fun I hI gs out h =>
  FnC.of_tree low mixed names (pl_ok I hI) (specs := []) (fuel := 100000) (c := code62) (pe := []) Tryz.func62 (by kernel_rfl) SpecsOk.nil (by kernel_rfl) h
end C
end Go.Proofs.YtamcdgfjjeldeaaGreatDoor
