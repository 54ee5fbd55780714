/- Definitions keep their contracts: the ways of the bodies, run by the kernel. -/
import Derived.Test.YtbcpbplkgknnmaaGreatDoorKWP
namespace Go.Proofs.YtbcpbplkgknnmaaGreatDoor
open Go Go.Abs
set_option maxRecDepth 100000
set_option linter.unusedVariables false
set_option linter.unusedSimpArgs false
namespace W
theorem t0 : GoodC C d0 c0 := fun I hI gs out h =>
  FnC.of_tree low mixed names (pl_ok I hI) (specs := [(0, s1)]) (fuel := 100000) (c := code10) (pe := []) Tryz.func10 (by kernel_rfl) (SpecsOk.cons rfl (fun gs out h => hI 1 gs out h) SpecsOk.nil) (by kernel_rfl) h
theorem t4 : GoodC C d4 c4 := fun I hI gs out h =>
  FnC.of_tree low mixed names (pl_ok I hI) (specs := [(0, s5)]) (fuel := 100000) (c := code13) (pe := []) Tryz.func13 (by kernel_rfl) (SpecsOk.cons rfl (fun gs out h => hI 5 gs out h) SpecsOk.nil) (by kernel_rfl) h
theorem t5 : GoodC C d5 c5 := fun I hI gs out h =>
  LoopC.of_tree_at low mixed names (pl_ok I hI) (specs := []) (fuel := 100000) (sp := s5) (by kernel_rfl) rfl (ps := []) (b := b5) SpecsOk.nil (fun gs out h => hI 5 gs out h) (by kernel_rfl) h
theorem t10 : GoodC C d10 c10 := fun I hI gs out h =>
  LoopC.of_tree_at low mixed names (pl_ok I hI) (specs := []) (fuel := 100000) (sp := s10) (by kernel_rfl) rfl (ps := []) (b := b10) SpecsOk.nil (fun gs out h => hI 10 gs out h) (by kernel_rfl) h
theorem t12 : GoodC C d12 c12 := fun I hI gs out h =>
  FnC.of_tree low mixed names (pl_ok I hI) (specs := []) (fuel := 100000) (c := code155) (pe := []) Tryz.func155 (by kernel_rfl) SpecsOk.nil (by kernel_rfl) h
theorem t20 : GoodC C d20 c20 := fun I hI gs out h =>
  FnC.of_tree low mixed names (pl_ok I hI) (specs := []) (fuel := 100000) (c := code76) (pe := []) Tryz.func76 (by kernel_rfl) SpecsOk.nil (by kernel_rfl) h
theorem t24 : GoodC C d24 c24 := fun I hI gs out h =>
  FnC.of_tree low mixed names (pl_ok I hI) (specs := []) (fuel := 100000) (c := code79) (pe := []) Tryz.func79 (by kernel_rfl) SpecsOk.nil (by kernel_rfl) h
theorem t28 : GoodC C d28 c28 := fun I hI gs out h =>
  FnC.of_tree low mixed names (pl_ok I hI) (specs := []) (fuel := 100000) (c := code82) (pe := []) Tryz.func82 (by kernel_rfl) SpecsOk.nil (by kernel_rfl) h
theorem t29 : GoodC C d29 c29 := fun I hI gs out h =>
  FnC.of_tree low mixed names (pl_ok I hI) (specs := [(0, s30)]) (fuel := 100000) (c := code157) (pe := []) Tryz.func157 (by kernel_rfl) (SpecsOk.cons rfl (fun gs out h => hI 30 gs out h) SpecsOk.nil) (by kernel_rfl) h
theorem t33 : GoodC C d33 c33 := fun I hI gs out h =>
  FnC.of_tree low mixed names (pl_ok I hI) (specs := []) (fuel := 100000) (c := code253) (pe := []) Tryz.func253 (by kernel_rfl) SpecsOk.nil (by kernel_rfl) h
theorem t34 : GoodC C d34 c34 := fun _ _ _ _ h => valid_ok h
theorem t37 : GoodC C d37 c37 := fun I hI gs out h =>
  LoopC.of_tree_at low mixed names (pl_ok I hI) (specs := []) (fuel := 100000) (sp := s37) (by kernel_rfl) rfl (ps := []) (b := b37) SpecsOk.nil (fun gs out h => hI 37 gs out h) (by kernel_rfl) h
theorem t47 : GoodC C d47 c47 := fun I hI gs out h =>
  FnS.of_tree low mixed names (pl_ok I hI) (specs := [(0, s48)]) (fuel := 100000) (c := code143) (pe := []) (sp := s47) rfl Tryz.func143 (by kernel_rfl) (SpecsOk.cons rfl (fun gs out h => hI 48 gs out h) SpecsOk.nil) (by kernel_rfl) h
theorem t48 : GoodC C d48 c48 := fun I hI gs out h =>
  LoopC.of_tree_at low mixed names (pl_ok I hI) (specs := []) (fuel := 100000) (sp := s48) (by kernel_rfl) rfl (ps := []) (b := b48) SpecsOk.nil (fun gs out h => hI 48 gs out h) (by kernel_rfl) h
theorem t50 : GoodC C d50 c50 := fun I hI gs out h =>
  FnC.of_tree low mixed names (pl_ok I hI) (specs := [(0, s51)]) (fuel := 100000) (c := code25) (pe := []) Tryz.func25 (by kernel_rfl) (SpecsOk.cons rfl (fun gs out h => hI 51 gs out h) SpecsOk.nil) (by kernel_rfl) h
theorem t54 : GoodC C d54 c54 := fun I hI gs out h =>
  FnS.of_tree low mixed names (pl_ok I hI) (specs := [(0, s55)]) (fuel := 100000) (c := code77) (pe := []) (sp := s54) rfl Tryz.func77 (by kernel_rfl) (SpecsOk.cons rfl (fun gs out h => hI 55 gs out h) SpecsOk.nil) (by kernel_rfl) h
theorem t56 : GoodC C d56 c56 := fun I hI gs out h =>
  FnS.of_tree low mixed names (pl_ok I hI) (specs := []) (fuel := 100000) (c := code67) (pe := []) (sp := s56) rfl Tryz.func67 (by kernel_rfl) SpecsOk.nil (by kernel_rfl) h
theorem t59 : GoodC C d59 c59 := fun I hI gs out h =>
  FnC.of_tree low mixed names (pl_ok I hI) (specs := [(0, s60)]) (fuel := 100000) (c := code89) (pe := []) Tryz.func89 (by kernel_rfl) (SpecsOk.cons rfl (fun gs out h => hI 60 gs out h) SpecsOk.nil) (by kernel_rfl) h
end W
end Go.Proofs.YtbcpbplkgknnmaaGreatDoor
