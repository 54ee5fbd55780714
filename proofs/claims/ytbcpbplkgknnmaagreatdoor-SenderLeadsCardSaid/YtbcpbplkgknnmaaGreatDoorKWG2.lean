/- Definitions keep their contracts: the ways of the bodies, run by the kernel. -/
import Derived.Test.YtbcpbplkgknnmaaGreatDoorKWP
namespace Go.Proofs.YtbcpbplkgknnmaaGreatDoor
open Go Go.Abs
set_option maxRecDepth 100000
set_option linter.unusedVariables false
set_option linter.unusedSimpArgs false
namespace W
theorem t3 : GoodC C d3 c3 := fun I hI gs out h =>
  LoopC.of_tree_at low mixed names (pl_ok I hI) (specs := []) (fuel := 100000) (sp := s3) (by kernel_rfl) rfl (ps := []) (b := b3) SpecsOk.nil (fun gs out h => hI 3 gs out h) (by kernel_rfl) h
theorem t9 : GoodC C d9 c9 := fun I hI gs out h =>
  LoopC.of_tree_at low mixed names (pl_ok I hI) (specs := []) (fuel := 100000) (sp := s9) (by kernel_rfl) rfl (ps := []) (b := b9) SpecsOk.nil (fun gs out h => hI 9 gs out h) (by kernel_rfl) h
theorem t25 : GoodC C d25 c25 := fun I hI gs out h =>
  FnC.of_tree low mixed names (pl_ok I hI) (specs := []) (fuel := 100000) (c := code141) (pe := []) Tryz.func141 (by kernel_rfl) SpecsOk.nil (by kernel_rfl) h
theorem t27 : GoodC C d27 c27 := fun I hI gs out h =>
  LoopC.of_tree_at low mixed names (pl_ok I hI) (specs := []) (fuel := 100000) (sp := s27) (by kernel_rfl) rfl (ps := []) (b := b27) SpecsOk.nil (fun gs out h => hI 27 gs out h) (by kernel_rfl) h
theorem t32 : GoodC C d32 c32 := fun I hI gs out h =>
  FnC.of_tree low mixed names (pl_ok I hI) (specs := []) (fuel := 100000) (c := code189) (pe := []) Tryz.func189 (by kernel_rfl) SpecsOk.nil (by kernel_rfl) h
theorem t35 : GoodC C d35 c35 := fun I hI gs out h =>
  FnC.of_tree low mixed names (pl_ok I hI) (specs := []) (fuel := 100000) (c := code151) (pe := []) Tryz.func151 (by kernel_rfl) SpecsOk.nil (by kernel_rfl) h
theorem t38 : GoodC C d38 c38 := fun _ _ _ _ h => cloneP_ok123 h
theorem t39 : GoodC C d39 c39 := fun I hI gs out h =>
  FnC.of_tree low mixed names (pl_ok I hI) (specs := []) (fuel := 100000) (c := code206) (pe := []) Tryz.func206 (by kernel_rfl) SpecsOk.nil (by kernel_rfl) h
theorem t43 : GoodC C d43 c43 := fun I hI gs out h =>
  FnC.of_tree low mixed names (pl_ok I hI) (specs := [(0, s44)]) (fuel := 100000) (c := code140) (pe := []) Tryz.func140 (by kernel_rfl) (SpecsOk.cons rfl (fun gs out h => hI 44 gs out h) SpecsOk.nil) (by kernel_rfl) h
theorem t44 : GoodC C d44 c44 := fun I hI gs out h =>
  LoopC.of_tree_at low mixed names (pl_ok I hI) (specs := []) (fuel := 100000) (sp := s44) (by kernel_rfl) rfl (ps := []) (b := b44) SpecsOk.nil (fun gs out h => hI 44 gs out h) (by kernel_rfl) h
theorem t45 : GoodC C d45 c45 := fun I hI gs out h =>
  FnS.of_tree low mixed names (pl_ok I hI) (specs := []) (fuel := 100000) (c := code66) (pe := []) (sp := s45) rfl Tryz.func66 (by kernel_rfl) SpecsOk.nil (by kernel_rfl) h
theorem t51 : GoodC C d51 c51 := fun I hI gs out h =>
  LoopC.of_tree_at low mixed names (pl_ok I hI) (specs := [(0, s52)]) (fuel := 100000) (sp := s51) (by kernel_rfl) rfl (ps := []) (b := b51) (SpecsOk.cons rfl (fun gs out h => hI 52 gs out h) SpecsOk.nil) (fun gs out h => hI 51 gs out h) (by kernel_rfl) h
theorem t52 : GoodC C d52 c52 := fun I hI gs out h =>
  LoopC.of_tree_at low mixed names (pl_ok I hI) (specs := []) (fuel := 100000) (sp := s52) (by kernel_rfl) rfl (ps := []) (b := b52) SpecsOk.nil (fun gs out h => hI 52 gs out h) (by kernel_rfl) h
theorem t55 : GoodC C d55 c55 := fun I hI gs out h =>
  LoopC.of_tree_at low mixed names (pl_ok I hI) (specs := []) (fuel := 100000) (sp := s55) (by kernel_rfl) rfl (ps := []) (b := b55) SpecsOk.nil (fun gs out h => hI 55 gs out h) (by kernel_rfl) h
theorem t58 : GoodC C d58 c58 := fun I hI gs out h =>
  FnC.of_tree low mixed names (pl_ok I hI) (specs := []) (fuel := 100000) (c := code20) (pe := []) Tryz.func20 (by kernel_rfl) SpecsOk.nil (by kernel_rfl) h
theorem t61 : GoodC C d61 c61 := fun I hI gs out h =>
  FnC.of_tree low mixed names (pl_ok I hI) (specs := []) (fuel := 100000) (c := code90) (pe := []) Tryz.func90 (by kernel_rfl) SpecsOk.nil (by kernel_rfl) h
theorem t62 : GoodC C d62 c62 := fun I hI gs out h =>
  FnC.of_tree low mixed names (pl_ok I hI) (specs := [(0, s63)]) (fuel := 100000) (c := code91) (pe := []) Tryz.func91 (by kernel_rfl) (SpecsOk.cons rfl (fun gs out h => hI 63 gs out h) SpecsOk.nil) (by kernel_rfl) h
theorem t63 : GoodC C d63 c63 := fun I hI gs out h =>
  LoopC.of_tree_at low mixed names (pl_ok I hI) (specs := []) (fuel := 100000) (sp := s63) (by kernel_rfl) rfl (ps := []) (b := b63) SpecsOk.nil (fun gs out h => hI 63 gs out h) (by kernel_rfl) h
theorem t65 : GoodC C d65 c65 := fun I hI gs out h =>
  FnS.of_tree low mixed names (pl_ok I hI) (specs := []) (fuel := 100000) (c := code65) (pe := []) (sp := s65) rfl Tryz.func65 (by kernel_rfl) SpecsOk.nil (by kernel_rfl) h
end W
end Go.Proofs.YtbcpbplkgknnmaaGreatDoor
