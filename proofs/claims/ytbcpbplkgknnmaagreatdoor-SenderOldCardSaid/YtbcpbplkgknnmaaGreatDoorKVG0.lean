/- Definitions keep their contracts: the ways of the bodies, run by the kernel. -/
import Derived.Test.YtbcpbplkgknnmaaGreatDoorKVP
namespace Go.Proofs.YtbcpbplkgknnmaaGreatDoor
open Go Go.Abs
set_option maxRecDepth 100000
set_option linter.unusedVariables false
set_option linter.unusedSimpArgs false
namespace V
theorem t1 : GoodC C d1 c1 := fun I hI gs out h =>
  LoopC.of_tree_at low mixed names (pl_ok I hI) (specs := []) (fuel := 100000) (sp := s1) (by kernel_rfl) rfl (ps := []) (b := b1) SpecsOk.nil (fun gs out h => hI 1 gs out h) (by kernel_rfl) h
theorem t6 : GoodC C d6 c6 := fun I hI gs out h =>
  FnC.of_tree low mixed names (pl_ok I hI) (specs := [(0, s11)]) (fuel := 100000) (c := code81) (pe := []) Tryz.func81 (by kernel_rfl) (SpecsOk.cons rfl (fun gs out h => hI 11 gs out h) SpecsOk.nil) (by kernel_rfl) h
theorem t8 : GoodC C d8 c8 := fun I hI gs out h =>
  FnC.of_tree low mixed names (pl_ok I hI) (specs := [(0, s9)]) (fuel := 100000) (c := code169) (pe := []) Tryz.func169 (by kernel_rfl) (SpecsOk.cons rfl (fun gs out h => hI 9 gs out h) SpecsOk.nil) (by kernel_rfl) h
theorem t16 : GoodC C d16 c16 := fun I hI gs out h =>
  FnC.of_tree low mixed names (pl_ok I hI) (specs := []) (fuel := 100000) (c := code141) (pe := []) Tryz.func141 (by kernel_rfl) SpecsOk.nil (by kernel_rfl) h
theorem t34 : GoodC C d34 c34 := fun I hI gs out h =>
  FnC.of_tree low mixed names (pl_ok I hI) (specs := [(0, s35)]) (fuel := 100000) (c := code140) (pe := []) Tryz.func140 (by kernel_rfl) (SpecsOk.cons rfl (fun gs out h => hI 35 gs out h) SpecsOk.nil) (by kernel_rfl) h
theorem t43 : GoodC C d43 c43 := fun I hI gs out h =>
  FnS.of_tree low mixed names (pl_ok I hI) (specs := [(0, s44)]) (fuel := 100000) (c := code143) (pe := []) (sp := s43) rfl Tryz.func143 (by kernel_rfl) (SpecsOk.cons rfl (fun gs out h => hI 44 gs out h) SpecsOk.nil) (by kernel_rfl) h
end V
end Go.Proofs.YtbcpbplkgknnmaaGreatDoor
