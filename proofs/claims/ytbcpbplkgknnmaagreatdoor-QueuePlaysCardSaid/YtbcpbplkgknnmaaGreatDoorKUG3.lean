/- Definitions keep their contracts: the ways of the bodies, run by the kernel. -/
import Derived.Test.YtbcpbplkgknnmaaGreatDoorKUP
namespace Go.Proofs.YtbcpbplkgknnmaaGreatDoor
open Go Go.Abs
set_option maxRecDepth 100000
set_option linter.unusedVariables false
set_option linter.unusedSimpArgs false
namespace U
theorem t1 : GoodC C d1 c1 := fun I hI gs out h =>
  FnC.of_tree low mixed names (pl_ok I hI) (specs := [(0, s2)]) (fuel := 100000) (c := code7) (pe := []) Tryz.func7 (by kernel_rfl) (SpecsOk.cons rfl (fun gs out h => hI 2 gs out h) SpecsOk.nil) (by kernel_rfl) h
theorem t6 : GoodC C d6 c6 := fun I hI gs out h =>
  FnS.of_tree low mixed names (pl_ok I hI) (specs := [(0, s7)]) (fuel := 100000) (c := code201) (pe := []) (sp := s6) rfl Tryz.func201 (by kernel_rfl) (SpecsOk.cons rfl (fun gs out h => hI 7 gs out h) SpecsOk.nil) (by kernel_rfl) h
theorem t8 : GoodC C d8 c8 := fun I hI gs out h =>
  FnS.of_tree low mixed names (pl_ok I hI) (specs := []) (fuel := 100000) (c := code136) (pe := []) (sp := s8) rfl Tryz.func136 (by kernel_rfl) SpecsOk.nil (by kernel_rfl) h
theorem t10 : GoodC C d10 c10 := fun I hI gs out h =>
  FnS.of_tree low mixed names (pl_ok I hI) (specs := []) (fuel := 100000) (c := code137) (pe := []) (sp := s10) rfl Tryz.func137 (by kernel_rfl) SpecsOk.nil (by kernel_rfl) h
theorem t18 : GoodC C d18 c18 := fun I hI gs out h =>
  LoopC.of_tree_at low mixed names (pl_ok I hI) (specs := []) (fuel := 100000) (sp := s18) (by kernel_rfl) rfl (ps := []) (b := b18) SpecsOk.nil (fun gs out h => hI 18 gs out h) (by kernel_rfl) h
theorem t21 : GoodC C d21 c21 := fun I hI gs out h =>
  FnS.of_tree low mixed names (pl_ok I hI) (specs := [(0, s22)]) (fuel := 100000) (c := code57) (pe := []) (sp := s21) rfl Tryz.func57 (by kernel_rfl) (SpecsOk.cons rfl (fun gs out h => hI 22 gs out h) SpecsOk.nil) (by kernel_rfl) h
theorem t22 : GoodC C d22 c22 := fun I hI gs out h =>
  LoopC.of_tree_at low mixed names (pl_ok I hI) (specs := []) (fuel := 100000) (sp := s22) (by kernel_rfl) rfl (ps := []) (b := b22) SpecsOk.nil (fun gs out h => hI 22 gs out h) (by kernel_rfl) h
theorem t25 : GoodC C d25 c25 := fun I hI gs out h =>
  LoopC.of_tree_at low mixed names (pl_ok I hI) (specs := []) (fuel := 100000) (sp := s25) (by kernel_rfl) rfl (ps := []) (b := b25) SpecsOk.nil (fun gs out h => hI 25 gs out h) (by kernel_rfl) h
end U
end Go.Proofs.YtbcpbplkgknnmaaGreatDoor
