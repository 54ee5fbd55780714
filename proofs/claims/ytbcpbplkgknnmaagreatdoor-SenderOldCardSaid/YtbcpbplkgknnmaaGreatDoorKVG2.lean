/- Definitions keep their contracts: the ways of the bodies, run by the kernel. -/
import Derived.Test.YtbcpbplkgknnmaaGreatDoorKVP
namespace Go.Proofs.YtbcpbplkgknnmaaGreatDoor
open Go Go.Abs
set_option maxRecDepth 100000
set_option linter.unusedVariables false
set_option linter.unusedSimpArgs false
namespace V
theorem t2 : GoodC C d2 c2 := fun I hI gs out h =>
  FnC.of_tree low mixed names (pl_ok I hI) (specs := [(0, s3)]) (fuel := 100000) (c := code12) (pe := []) Tryz.func12 (by kernel_rfl) (SpecsOk.cons rfl (fun gs out h => hI 3 gs out h) SpecsOk.nil) (by kernel_rfl) h
theorem t3 : GoodC C d3 c3 := fun I hI gs out h =>
  LoopC.of_tree_at low mixed names (pl_ok I hI) (specs := []) (fuel := 100000) (sp := s3) (by kernel_rfl) rfl (ps := []) (b := b3) SpecsOk.nil (fun gs out h => hI 3 gs out h) (by kernel_rfl) h
theorem t4 : GoodC C d4 c4 := fun I hI gs out h =>
  FnC.of_tree low mixed names (pl_ok I hI) (specs := [(0, s5)]) (fuel := 100000) (c := code13) (pe := []) Tryz.func13 (by kernel_rfl) (SpecsOk.cons rfl (fun gs out h => hI 5 gs out h) SpecsOk.nil) (by kernel_rfl) h
theorem t10 : GoodC C d10 c10 := fun I hI gs out h =>
  LoopC.of_tree_at low mixed names (pl_ok I hI) (specs := []) (fuel := 100000) (sp := s10) (by kernel_rfl) rfl (ps := []) (b := b10) SpecsOk.nil (fun gs out h => hI 10 gs out h) (by kernel_rfl) h
theorem t11 : GoodC C d11 c11 := fun I hI gs out h =>
  LoopC.of_tree_at low mixed names (pl_ok I hI) (specs := []) (fuel := 100000) (sp := s11) (by kernel_rfl) rfl (ps := []) (b := b11) SpecsOk.nil (fun gs out h => hI 11 gs out h) (by kernel_rfl) h
theorem t12 : GoodC C d12 c12 := fun I hI gs out h =>
  FnC.of_tree low mixed names (pl_ok I hI) (specs := []) (fuel := 100000) (c := code155) (pe := []) Tryz.func155 (by kernel_rfl) SpecsOk.nil (by kernel_rfl) h
theorem t25 : GoodC C d25 c25 := fun _ _ _ _ h => valid_ok h
theorem t26 : GoodC C d26 c26 := fun I hI gs out h =>
  FnC.of_tree low mixed names (pl_ok I hI) (specs := []) (fuel := 100000) (c := code151) (pe := []) Tryz.func151 (by kernel_rfl) SpecsOk.nil (by kernel_rfl) h
theorem t27 : GoodC C d27 c27 := fun I hI gs out h =>
  FnC.of_tree low mixed names (pl_ok I hI) (specs := [(0, s28)]) (fuel := 100000) (c := code152) (pe := []) Tryz.func152 (by kernel_rfl) (SpecsOk.cons rfl (fun gs out h => hI 28 gs out h) SpecsOk.nil) (by kernel_rfl) h
theorem t32 : GoodC C d32 c32 := fun _ _ _ _ h => add64_ok h
theorem t42 : GoodC C d42 c42 := fun I hI gs out h =>
  FnS.of_tree low mixed names (pl_ok I hI) (specs := []) (fuel := 100000) (c := code67) (pe := []) (sp := s42) rfl Tryz.func67 (by kernel_rfl) SpecsOk.nil (by kernel_rfl) h
theorem t47 : GoodC C d47 c47 := fun I hI gs out h =>
  LoopC.of_tree_at low mixed names (pl_ok I hI) (specs := []) (fuel := 100000) (sp := s47) (by kernel_rfl) rfl (ps := []) (b := b47) SpecsOk.nil (fun gs out h => hI 47 gs out h) (by kernel_rfl) h
theorem t51 : GoodC C d51 c51 := fun I hI gs out h =>
  LoopC.of_tree_at low mixed names (pl_ok I hI) (specs := [(0, s52)]) (fuel := 100000) (sp := s51) (by kernel_rfl) rfl (ps := []) (b := b51) (SpecsOk.cons rfl (fun gs out h => hI 52 gs out h) SpecsOk.nil) (fun gs out h => hI 51 gs out h) (by kernel_rfl) h
theorem t55 : GoodC C d55 c55 := fun I hI gs out h =>
  FnC.of_tree low mixed names (pl_ok I hI) (specs := [(0, s56)]) (fuel := 100000) (c := code89) (pe := []) Tryz.func89 (by kernel_rfl) (SpecsOk.cons rfl (fun gs out h => hI 56 gs out h) SpecsOk.nil) (by kernel_rfl) h
theorem t59 : GoodC C d59 c59 := fun I hI gs out h =>
  LoopC.of_tree_at low mixed names (pl_ok I hI) (specs := []) (fuel := 100000) (sp := s59) (by kernel_rfl) rfl (ps := []) (b := b59) SpecsOk.nil (fun gs out h => hI 59 gs out h) (by kernel_rfl) h
theorem t61 : GoodC C d61 c61 := fun I hI gs out h =>
  FnS.of_tree low mixed names (pl_ok I hI) (specs := []) (fuel := 100000) (c := code65) (pe := []) (sp := s61) rfl Tryz.func65 (by kernel_rfl) SpecsOk.nil (by kernel_rfl) h
end V
end Go.Proofs.YtbcpbplkgknnmaaGreatDoor
