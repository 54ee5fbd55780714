/- Definitions keep their contracts: the ways of the bodies, run by the kernel. -/
import Derived.Test.YtbcpbplkgknnmaaGreatDoorKVP
namespace Go.Proofs.YtbcpbplkgknnmaaGreatDoor
open Go Go.Abs
set_option maxRecDepth 100000
set_option linter.unusedVariables false
set_option linter.unusedSimpArgs false
namespace V
theorem t0 : GoodC C d0 c0 := fun I hI gs out h =>
  FnC.of_tree low mixed names (pl_ok I hI) (specs := [(0, s1)]) (fuel := 100000) (c := code9) (pe := []) Tryz.func9 (by kernel_rfl) (SpecsOk.cons rfl (fun gs out h => hI 1 gs out h) SpecsOk.nil) (by kernel_rfl) h
theorem t7 : GoodC C d7 c7 := fun I hI gs out h =>
  FnC.of_tree low mixed names (pl_ok I hI) (specs := [(0, s10)]) (fuel := 100000) (c := code96) (pe := []) Tryz.func96 (by kernel_rfl) (SpecsOk.cons rfl (fun gs out h => hI 10 gs out h) SpecsOk.nil) (by kernel_rfl) h
theorem t9 : GoodC C d9 c9 := fun I hI gs out h =>
  LoopC.of_tree_at low mixed names (pl_ok I hI) (specs := []) (fuel := 100000) (sp := s9) (by kernel_rfl) rfl (ps := []) (b := b9) SpecsOk.nil (fun gs out h => hI 9 gs out h) (by kernel_rfl) h
theorem t15 : GoodC C d15 c15 := fun I hI gs out h =>
  FnC.of_tree low mixed names (pl_ok I hI) (specs := []) (fuel := 100000) (c := code79) (pe := []) Tryz.func79 (by kernel_rfl) SpecsOk.nil (by kernel_rfl) h
theorem t17 : GoodC C d17 c17 := fun I hI gs out h =>
  FnC.of_tree low mixed names (pl_ok I hI) (specs := [(0, s18)]) (fuel := 100000) (c := code18) (pe := []) Tryz.func18 (by kernel_rfl) (SpecsOk.cons rfl (fun gs out h => hI 18 gs out h) SpecsOk.nil) (by kernel_rfl) h
theorem t18 : GoodC C d18 c18 := fun I hI gs out h =>
  LoopC.of_tree_at low mixed names (pl_ok I hI) (specs := []) (fuel := 100000) (sp := s18) (by kernel_rfl) rfl (ps := []) (b := b18) SpecsOk.nil (fun gs out h => hI 18 gs out h) (by kernel_rfl) h
theorem t19 : GoodC C d19 c19 := fun I hI gs out h =>
  FnC.of_tree low mixed names (pl_ok I hI) (specs := []) (fuel := 100000) (c := code82) (pe := []) Tryz.func82 (by kernel_rfl) SpecsOk.nil (by kernel_rfl) h
theorem t24 : GoodC C d24 c24 := fun I hI gs out h =>
  FnC.of_tree low mixed names (pl_ok I hI) (specs := []) (fuel := 100000) (c := code253) (pe := []) Tryz.func253 (by kernel_rfl) SpecsOk.nil (by kernel_rfl) h
theorem t28 : GoodC C d28 c28 := fun I hI gs out h =>
  LoopC.of_tree_at low mixed names (pl_ok I hI) (specs := []) (fuel := 100000) (sp := s28) (by kernel_rfl) rfl (ps := []) (b := b28) SpecsOk.nil (fun gs out h => hI 28 gs out h) (by kernel_rfl) h
theorem t30 : GoodC C d30 c30 := fun I hI gs out h =>
  FnC.of_tree low mixed names (pl_ok I hI) (specs := []) (fuel := 100000) (c := code206) (pe := []) Tryz.func206 (by kernel_rfl) SpecsOk.nil (by kernel_rfl) h
theorem t31 : GoodC C d31 c31 := fun _ _ _ _ h => cmp_ok h
theorem t52 : GoodC C d52 c52 := fun I hI gs out h =>
  LoopC.of_tree_at low mixed names (pl_ok I hI) (specs := []) (fuel := 100000) (sp := s52) (by kernel_rfl) rfl (ps := []) (b := b52) SpecsOk.nil (fun gs out h => hI 52 gs out h) (by kernel_rfl) h
theorem t56 : GoodC C d56 c56 := fun I hI gs out h =>
  LoopC.of_tree_at low mixed names (pl_ok I hI) (specs := []) (fuel := 100000) (sp := s56) (by kernel_rfl) rfl (ps := []) (b := b56) SpecsOk.nil (fun gs out h => hI 56 gs out h) (by kernel_rfl) h
theorem t57 : GoodC C d57 c57 := fun I hI gs out h =>
  FnC.of_tree low mixed names (pl_ok I hI) (specs := []) (fuel := 100000) (c := code90) (pe := []) Tryz.func90 (by kernel_rfl) SpecsOk.nil (by kernel_rfl) h
theorem t60 : GoodC C d60 c60 := fun I hI gs out h =>
  FnS.of_tree low mixed names (pl_ok I hI) (specs := []) (fuel := 100000) (c := code70) (pe := []) (sp := s60) rfl Tryz.func70 (by kernel_rfl) SpecsOk.nil (by kernel_rfl) h
end V
end Go.Proofs.YtbcpbplkgknnmaaGreatDoor
