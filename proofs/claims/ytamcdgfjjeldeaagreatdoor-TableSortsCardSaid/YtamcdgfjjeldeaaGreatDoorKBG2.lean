/- Definitions keep their contracts: the ways of the bodies, run by the kernel. -/
import Derived.Test.YtamcdgfjjeldeaaGreatDoorKBP
namespace Go.Proofs.YtamcdgfjjeldeaaGreatDoor
open Go Go.Abs
set_option maxRecDepth 100000
set_option linter.unusedVariables false
set_option linter.unusedSimpArgs false
namespace B
theorem t2 : GoodC C d2 c2 := fun I hI gs out h =>
  FnC.of_tree low mixed names (pl_ok I hI) (specs := [(0, s3)]) (fuel := 100000) (c := code16) (pe := []) Tryz.func16 (by kernel_rfl) (SpecsOk.cons rfl (fun gs out h => hI 3 gs out h) SpecsOk.nil) (by kernel_rfl) h
theorem t8 : GoodC C d8 c8 := fun I hI gs out h =>
  FnC.of_tree low mixed names (pl_ok I hI) (specs := [(0, s9)]) (fuel := 100000) (c := code129) (pe := []) Tryz.func129 (by kernel_rfl) (SpecsOk.cons rfl (fun gs out h => hI 9 gs out h) SpecsOk.nil) (by kernel_rfl) h
theorem t17 : GoodC C d17 c17 := fun I hI gs out h =>
  LoopC.of_tree_at low mixed names (pl_ok I hI) (specs := []) (fuel := 100000) (sp := s17) (by kernel_rfl) rfl (ps := []) (b := b17) SpecsOk.nil (fun gs out h => hI 17 gs out h) (by kernel_rfl) h
theorem t19 : GoodC C d19 c19 := fun I hI gs out h =>
  FnC.of_tree low mixed names (pl_ok I hI) (specs := []) (fuel := 100000) (c := code177) (pe := []) Tryz.func177 (by kernel_rfl) SpecsOk.nil (by kernel_rfl) h
theorem t23 : GoodC C d23 c23 := fun _ _ _ _ h => cloneP_ok123 h
theorem t26 : GoodC C d26 c26 := fun I hI gs out h =>
  LoopC.of_tree_at low mixed names (pl_ok I hI) (specs := []) (fuel := 100000) (sp := s26) (by kernel_rfl) rfl (ps := []) (b := b26) SpecsOk.nil (fun gs out h => hI 26 gs out h) (by kernel_rfl) h
theorem t29 : GoodC C d29 c29 := fun I hI gs out h =>
  LoopC.of_tree_at low mixed names (pl_ok I hI) (specs := []) (fuel := 100000) (sp := s29) (by kernel_rfl) rfl (ps := []) (b := b29) SpecsOk.nil (fun gs out h => hI 29 gs out h) (by kernel_rfl) h
theorem t30 : GoodC C d30 c30 := fun I hI gs out h =>
  FnC.of_tree low mixed names (pl_ok I hI) (specs := []) (fuel := 100000) (c := code87) (pe := []) Tryz.func87 (by kernel_rfl) SpecsOk.nil (by kernel_rfl) h
theorem t31 : GoodC C d31 c31 := fun I hI gs out h =>
  FnC.of_tree low mixed names (pl_ok I hI) (specs := [(0, s32)]) (fuel := 100000) (c := code88) (pe := []) Tryz.func88 (by kernel_rfl) (SpecsOk.cons rfl (fun gs out h => hI 32 gs out h) SpecsOk.nil) (by kernel_rfl) h
theorem t33 : GoodC C d33 c33 := fun I hI gs out h =>
  FnC.of_tree low mixed names (pl_ok I hI) (specs := [(0, s34)]) (fuel := 100000) (c := code4) (pe := []) Tryz.func4 (by kernel_rfl) (SpecsOk.cons rfl (fun gs out h => hI 34 gs out h) SpecsOk.nil) (by kernel_rfl) h
end B
end Go.Proofs.YtamcdgfjjeldeaaGreatDoor
