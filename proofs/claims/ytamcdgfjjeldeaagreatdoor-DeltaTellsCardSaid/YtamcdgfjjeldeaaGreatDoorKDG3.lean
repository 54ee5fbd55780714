/- Definitions keep their contracts: the ways of the bodies, run by the kernel. -/
import Derived.Test.YtamcdgfjjeldeaaGreatDoorKDP
namespace Go.Proofs.YtamcdgfjjeldeaaGreatDoor
open Go Go.Abs
set_option maxRecDepth 100000
set_option linter.unusedVariables false
set_option linter.unusedSimpArgs false
namespace D
theorem t20 : GoodC C d20 c20 := fun I hI gs out h =>
  FnC.of_tree low mixed names (pl_ok I hI) (specs := []) (fuel := 100000) (c := code197) (pe := []) Tryz.func197 (by kernel_rfl) SpecsOk.nil (by kernel_rfl) h
theorem t21 : GoodC C d21 c21 := fun _ _ _ _ h => valid_ok h
theorem t30 : GoodC C d30 c30 := fun I hI gs out h =>
  FnC.of_tree low mixed names (pl_ok I hI) (specs := []) (fuel := 100000) (c := code87) (pe := []) Tryz.func87 (by kernel_rfl) SpecsOk.nil (by kernel_rfl) h
theorem t32 : GoodC C d32 c32 := fun I hI gs out h =>
  LoopC.of_tree_at low mixed names (pl_ok I hI) (specs := []) (fuel := 100000) (sp := s32) (by kernel_rfl) rfl (ps := []) (b := b32) SpecsOk.nil (fun gs out h => hI 32 gs out h) (by kernel_rfl) h
theorem t33 : GoodC C d33 c33 := fun I hI gs out h =>
  FnC.of_tree low mixed names (pl_ok I hI) (specs := [(0, s34)]) (fuel := 100000) (c := code4) (pe := []) Tryz.func4 (by kernel_rfl) (SpecsOk.cons rfl (fun gs out h => hI 34 gs out h) SpecsOk.nil) (by kernel_rfl) h
theorem t35 : GoodC C d35 c35 := fun I hI gs out h =>
  FnC.of_tree low mixed names (pl_ok I hI) (specs := [(0, s36)]) (fuel := 100000) (c := code20) (pe := []) Tryz.func20 (by kernel_rfl) (SpecsOk.cons rfl (fun gs out h => hI 36 gs out h) SpecsOk.nil) (by kernel_rfl) h
theorem t38 : GoodC C d38 c38 := fun I hI gs out h =>
  LoopC.of_tree_at low mixed names (pl_ok I hI) (specs := []) (fuel := 100000) (sp := s38) (by kernel_rfl) rfl (ps := []) (b := b38) SpecsOk.nil (fun gs out h => hI 38 gs out h) (by kernel_rfl) h
theorem t40 : GoodC C d40 c40 := fun I hI gs out h =>
  FnC.of_tree low mixed names (pl_ok I hI) (specs := []) (fuel := 100000) (c := code57) (pe := []) Tryz.func57 (by kernel_rfl) SpecsOk.nil (by kernel_rfl) h
theorem t43 : GoodC C d43 c43 := fun I hI gs out h =>
  LoopC.of_tree_at low mixed names (pl_ok I hI) (specs := []) (fuel := 100000) (sp := s43) (by kernel_rfl) rfl (ps := []) (b := b43) SpecsOk.nil (fun gs out h => hI 43 gs out h) (by kernel_rfl) h
theorem t53 : GoodC C d53 c53 := fun I hI gs out h =>
  FnC.of_tree low mixed names (pl_ok I hI) (specs := []) (fuel := 100000) (c := code64) (pe := []) Tryz.func64 (by kernel_rfl) SpecsOk.nil (by kernel_rfl) h
theorem t57 : GoodC C d57 c57 := fun I hI gs out h =>
  LoopC.of_tree_at low mixed names (pl_ok I hI) (specs := []) (fuel := 100000) (sp := s57) (by kernel_rfl) rfl (ps := []) (b := b57) SpecsOk.nil (fun gs out h => hI 57 gs out h) (by kernel_rfl) h
theorem t59 : GoodC C d59 c59 := fun I hI gs out h =>
  FnC.of_tree low mixed names (pl_ok I hI) (specs := [(0, s60)]) (fuel := 100000) (c := code26) (pe := []) Tryz.func26 (by kernel_rfl) (SpecsOk.cons rfl (fun gs out h => hI 60 gs out h) SpecsOk.nil) (by kernel_rfl) h
theorem t62 : GoodC C d62 c62 := fun I hI gs out h =>
  FnC.of_tree low mixed names (pl_ok I hI) (specs := [(0, s63)]) (fuel := 100000) (c := code124) (pe := []) Tryz.func124 (by kernel_rfl) (SpecsOk.cons rfl (fun gs out h => hI 63 gs out h) SpecsOk.nil) (by kernel_rfl) h
theorem t63 : GoodC C d63 c63 := fun I hI gs out h =>
  LoopC.of_tree_at low mixed names (pl_ok I hI) (specs := []) (fuel := 100000) (sp := s63) (by kernel_rfl) rfl (ps := []) (b := b63) SpecsOk.nil (fun gs out h => hI 63 gs out h) (by kernel_rfl) h
theorem t64 : GoodC C d64 c64 := fun I hI gs out h =>
  FnC.of_tree low mixed names (pl_ok I hI) (specs := []) (fuel := 100000) (c := code161) (pe := []) Tryz.func161 (by kernel_rfl) SpecsOk.nil (by kernel_rfl) h
theorem t65 : GoodC C d65 c65 := fun I hI gs out h =>
  FnC.of_tree low mixed names (pl_ok I hI) (specs := []) (fuel := 100000) (c := code183) (pe := []) Tryz.func183 (by kernel_rfl) SpecsOk.nil (by kernel_rfl) h
theorem t70 : GoodC C d70 c70 := fun I hI gs out h =>
  FnC.of_tree low mixed names (pl_ok I hI) (specs := []) (fuel := 100000) (c := code162) (pe := []) Tryz.func162 (by kernel_rfl) SpecsOk.nil (by kernel_rfl) h
theorem t73 : GoodC C d73 c73 := fun I hI gs out h =>
  LoopC.of_tree_at low mixed names (pl_ok I hI) (specs := []) (fuel := 100000) (sp := s73) (by kernel_rfl) rfl (ps := []) (b := b73) SpecsOk.nil (fun gs out h => hI 73 gs out h) (by kernel_rfl) h
theorem t79 : GoodC C d79 c79 := fun I hI gs out h =>
  FnC.of_tree low mixed names (pl_ok I hI) (specs := []) (fuel := 100000) (c := code90) (pe := []) Tryz.func90 (by kernel_rfl) SpecsOk.nil (by kernel_rfl) h
theorem t81 : GoodC C d81 c81 := fun I hI gs out h =>
  LoopC.of_tree_at low mixed names (pl_ok I hI) (specs := []) (fuel := 100000) (sp := s81) (by kernel_rfl) rfl (ps := []) (b := b81) SpecsOk.nil (fun gs out h => hI 81 gs out h) (by kernel_rfl) h
theorem t82 : GoodC C d82 c82 := fun I hI gs out h =>
  FnC.of_tree low mixed names (pl_ok I hI) (specs := [(0, s83)]) (fuel := 100000) (c := code28) (pe := []) Tryz.func28 (by kernel_rfl) (SpecsOk.cons rfl (fun gs out h => hI 83 gs out h) SpecsOk.nil) (by kernel_rfl) h
theorem t83 : GoodC C d83 c83 := fun I hI gs out h =>
  LoopC.of_tree_at low mixed names (pl_ok I hI) (specs := []) (fuel := 100000) (sp := s83) (by kernel_rfl) rfl (ps := []) (b := b83) SpecsOk.nil (fun gs out h => hI 83 gs out h) (by kernel_rfl) h
theorem t93 : GoodC C d93 c93 := fun I hI gs out h =>
  LoopC.of_tree_at low mixed names (pl_ok I hI) (specs := [(0, s94)]) (fuel := 100000) (sp := s93) (by kernel_rfl) rfl (ps := []) (b := b93) (SpecsOk.cons rfl (fun gs out h => hI 94 gs out h) SpecsOk.nil) (fun gs out h => hI 93 gs out h) (by kernel_rfl) h
theorem t95 : GoodC C d95 c95 := fun I hI gs out h =>
  FnC.of_tree low mixed names (pl_ok I hI) (specs := []) (fuel := 100000) (c := code67) (pe := []) Tryz.func67 (by kernel_rfl) SpecsOk.nil (by kernel_rfl) h
theorem t101 : GoodC C d101 c101 := fun I hI gs out h =>
  FnC.of_tree low mixed names (pl_ok I hI) (specs := [(0, s102)]) (fuel := 100000) (c := code71) (pe := []) Tryz.func71 (by kernel_rfl) (SpecsOk.cons rfl (fun gs out h => hI 102 gs out h) SpecsOk.nil) (by kernel_rfl) h
theorem t102 : GoodC C d102 c102 := fun I hI gs out h =>
  LoopC.of_tree_at low mixed names (pl_ok I hI) (specs := []) (fuel := 100000) (sp := s102) (by kernel_rfl) rfl (ps := []) (b := b102) SpecsOk.nil (fun gs out h => hI 102 gs out h) (by kernel_rfl) h
end D
end Go.Proofs.YtamcdgfjjeldeaaGreatDoor
