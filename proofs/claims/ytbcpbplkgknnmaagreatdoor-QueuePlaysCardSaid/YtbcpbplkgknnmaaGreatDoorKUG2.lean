/- Definitions keep their contracts: the ways of the bodies, run by the kernel. -/
import Derived.Test.YtbcpbplkgknnmaaGreatDoorKUP
namespace Go.Proofs.YtbcpbplkgknnmaaGreatDoor
open Go Go.Abs
set_option maxRecDepth 100000
set_option linter.unusedVariables false
set_option linter.unusedSimpArgs false
namespace U
theorem t0 : GoodC C d0 c0 := fun _ _ _ _ h => h
theorem t7 : GoodC C d7 c7 := fun I hI gs out h =>
  LoopC.of_tree_at low mixed names (pl_ok I hI) (specs := []) (fuel := 100000) (sp := s7) (by kernel_rfl) rfl (ps := []) (b := b7) SpecsOk.nil (fun gs out h => hI 7 gs out h) (by kernel_rfl) h
theorem t9 : GoodC C d9 c9 := fun I hI gs out h =>
  FnS.of_tree low mixed names (pl_ok I hI) (specs := []) (fuel := 100000) (c := code54) (pe := []) (sp := s9) rfl Tryz.func54 (by kernel_rfl) SpecsOk.nil (by kernel_rfl) h
theorem t14 : GoodC C d14 c14 := fun I hI gs out h =>
  LoopC.of_tree_at low mixed names (pl_ok I hI) (specs := []) (fuel := 100000) (sp := s14) (by kernel_rfl) rfl (ps := []) (b := b14) SpecsOk.nil (fun gs out h => hI 14 gs out h) (by kernel_rfl) h
theorem t17 : GoodC C d17 c17 := fun I hI gs out h =>
  FnC.of_tree low mixed names (pl_ok I hI) (specs := [(0, s18)]) (fuel := 100000) (c := code56) (pe := []) Tryz.func56 (by kernel_rfl) (SpecsOk.cons rfl (fun gs out h => hI 18 gs out h) SpecsOk.nil) (by kernel_rfl) h
theorem t19 : GoodC C d19 c19 := fun I hI gs out h =>
  FnS.of_tree low mixed names (pl_ok I hI) (specs := [(0, s20)]) (fuel := 100000) (c := code53) (pe := []) (sp := s19) rfl Tryz.func53 (by kernel_rfl) (SpecsOk.cons rfl (fun gs out h => hI 20 gs out h) SpecsOk.nil) (by kernel_rfl) h
theorem t23 : GoodC C d23 c23 := fun I hI gs out h =>
  LoopC.of_tree_at low mixed names (pl_ok I hI) (specs := []) (fuel := 100000) (sp := s23) (by kernel_rfl) rfl (ps := []) (b := b23) SpecsOk.nil (fun gs out h => hI 23 gs out h) (by kernel_rfl) h
theorem t24 : GoodC C d24 c24 := fun I hI gs out h =>
  FnC.of_tree low mixed names (pl_ok I hI) (specs := [(0, s25)]) (fuel := 100000) (c := code58) (pe := []) Tryz.func58 (by kernel_rfl) (SpecsOk.cons rfl (fun gs out h => hI 25 gs out h) SpecsOk.nil) (by kernel_rfl) h
end U
end Go.Proofs.YtbcpbplkgknnmaaGreatDoor
