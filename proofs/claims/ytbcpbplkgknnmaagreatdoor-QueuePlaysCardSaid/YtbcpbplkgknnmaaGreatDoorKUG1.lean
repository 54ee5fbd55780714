/- Definitions keep their contracts: the ways of the bodies, run by the kernel. -/
import Derived.Test.YtbcpbplkgknnmaaGreatDoorKUP
namespace Go.Proofs.YtbcpbplkgknnmaaGreatDoor
open Go Go.Abs
set_option maxRecDepth 100000
set_option linter.unusedVariables false
set_option linter.unusedSimpArgs false
namespace U
theorem t11 : GoodC C d11 c11 := fun I hI gs out h =>
  FnS.of_tree low mixed names (pl_ok I hI) (specs := [(0, s12)]) (fuel := 100000) (c := code202) (pe := []) (sp := s11) rfl Tryz.func202 (by kernel_rfl) (SpecsOk.cons rfl (fun gs out h => hI 12 gs out h) SpecsOk.nil) (by kernel_rfl) h
theorem t12 : GoodC C d12 c12 := fun I hI gs out h =>
  LoopC.of_tree_at low mixed names (pl_ok I hI) (specs := []) (fuel := 100000) (sp := s12) (by kernel_rfl) rfl (ps := []) (b := b12) SpecsOk.nil (fun gs out h => hI 12 gs out h) (by kernel_rfl) h
theorem t13 : GoodC C d13 c13 := fun I hI gs out h =>
  FnC.of_tree low mixed names (pl_ok I hI) (specs := [(0, s14)]) (fuel := 100000) (c := code55) (pe := []) Tryz.func55 (by kernel_rfl) (SpecsOk.cons rfl (fun gs out h => hI 14 gs out h) SpecsOk.nil) (by kernel_rfl) h
theorem t20 : GoodC C d20 c20 := fun I hI gs out h =>
  LoopC.of_tree_at low mixed names (pl_ok I hI) (specs := []) (fuel := 100000) (sp := s20) (by kernel_rfl) rfl (ps := []) (b := b20) SpecsOk.nil (fun gs out h => hI 20 gs out h) (by kernel_rfl) h
end U
end Go.Proofs.YtbcpbplkgknnmaaGreatDoor
