/- Definitions keep their contracts: the ways of the bodies, run by the kernel. -/
import Derived.Test.YtbcpbplkgknnmaaGreatDoorKXP
namespace Go.Proofs.YtbcpbplkgknnmaaGreatDoor
open Go Go.Abs
set_option maxRecDepth 100000
set_option linter.unusedVariables false
set_option linter.unusedSimpArgs false
namespace X
theorem t0 : GoodC C d0 c0 := fun I hI gs out h =>
  FnC.of_tree low mixed names (pl_ok I hI) (specs := [(0, s1)]) (fuel := 100000) (c := code8) (pe := []) Tryz.func8 (by kernel_rfl) (SpecsOk.cons rfl (fun gs out h => hI 1 gs out h) SpecsOk.nil) (by kernel_rfl) h
theorem t7 : GoodC C d7 c7 := fun I hI gs out h =>
  FnC.of_tree low mixed names (pl_ok I hI) (specs := [(0, s10)]) (fuel := 100000) (c := code96) (pe := []) Tryz.func96 (by kernel_rfl) (SpecsOk.cons rfl (fun gs out h => hI 10 gs out h) SpecsOk.nil) (by kernel_rfl) h
theorem t17 : GoodC C d17 c17 := fun I hI gs out h =>
  FnC.of_tree low mixed names (pl_ok I hI) (specs := [(0, s18)]) (fuel := 100000) (c := code18) (pe := []) Tryz.func18 (by kernel_rfl) (SpecsOk.cons rfl (fun gs out h => hI 18 gs out h) SpecsOk.nil) (by kernel_rfl) h
theorem t19 : GoodC C d19 c19 := fun I hI gs out h =>
  FnC.of_tree low mixed names (pl_ok I hI) (specs := []) (fuel := 100000) (c := code82) (pe := []) Tryz.func82 (by kernel_rfl) SpecsOk.nil (by kernel_rfl) h
theorem t21 : GoodC C d21 c21 := fun I hI gs out h =>
  LoopC.of_tree_at low mixed names (pl_ok I hI) (specs := []) (fuel := 100000) (sp := s21) (by kernel_rfl) rfl (ps := []) (b := b21) SpecsOk.nil (fun gs out h => hI 21 gs out h) (by kernel_rfl) h
theorem t26 : GoodC C d26 c26 := fun I hI gs out h =>
  FnC.of_tree low mixed names (pl_ok I hI) (specs := [(0, s27)]) (fuel := 100000) (c := code140) (pe := []) Tryz.func140 (by kernel_rfl) (SpecsOk.cons rfl (fun gs out h => hI 27 gs out h) SpecsOk.nil) (by kernel_rfl) h
theorem t33 : GoodC C d33 c33 := fun I hI gs out h =>
  FnC.of_tree low mixed names (pl_ok I hI) (specs := [(0, s34)]) (fuel := 100000) (c := code68) (pe := []) Tryz.func68 (by kernel_rfl) (SpecsOk.cons rfl (fun gs out h => hI 34 gs out h) SpecsOk.nil) (by kernel_rfl) h
theorem t42 : GoodC C d42 c42 := fun I hI gs out h =>
  LoopC.of_tree_at low mixed names (pl_ok I hI) (specs := []) (fuel := 100000) (sp := s42) (by kernel_rfl) rfl (ps := []) (b := b42) SpecsOk.nil (fun gs out h => hI 42 gs out h) (by kernel_rfl) h
theorem t51 : GoodC C d51 c51 := fun I hI gs out h =>
  LoopC.of_tree_at low mixed names (pl_ok I hI) (specs := []) (fuel := 100000) (sp := s51) (by kernel_rfl) rfl (ps := []) (b := b51) SpecsOk.nil (fun gs out h => hI 51 gs out h) (by kernel_rfl) h
theorem t52 : GoodC C d52 c52 := fun I hI gs out h =>
  FnC.of_tree low mixed names (pl_ok I hI) (specs := []) (fuel := 100000) (c := code235) (pe := []) Tryz.func235 (by kernel_rfl) SpecsOk.nil (by kernel_rfl) h
theorem t55 : GoodC C d55 c55 := fun I hI gs out h =>
  LoopC.of_tree_at low mixed names (pl_ok I hI) (specs := []) (fuel := 100000) (sp := s55) (by kernel_rfl) rfl (ps := []) (b := b55) SpecsOk.nil (fun gs out h => hI 55 gs out h) (by kernel_rfl) h
theorem t60 : GoodC C d60 c60 := fun I hI gs out h =>
  FnC.of_tree low mixed names (pl_ok I hI) (specs := []) (fuel := 100000) (c := code165) (pe := []) Tryz.func165 (by kernel_rfl) SpecsOk.nil (by kernel_rfl) h
theorem t65 : GoodC C d65 c65 := fun I hI gs out h =>
  LoopC.of_tree_at low mixed names (pl_ok I hI) (specs := []) (fuel := 100000) (sp := s65) (by kernel_rfl) rfl (ps := []) (b := b65) SpecsOk.nil (fun gs out h => hI 65 gs out h) (by kernel_rfl) h
theorem t67 : GoodC C d67 c67 := fun I hI gs out h =>
  FnC.of_tree low mixed names (pl_ok I hI) (specs := []) (fuel := 100000) (c := code72) (pe := []) Tryz.func72 (by kernel_rfl) SpecsOk.nil (by kernel_rfl) h
theorem t68 : GoodC C d68 c68 := fun I hI gs out h =>
  FnC.of_tree low mixed names (pl_ok I hI) (specs := [(0, s69)]) (fuel := 100000) (c := code16) (pe := []) Tryz.func16 (by kernel_rfl) (SpecsOk.cons rfl (fun gs out h => hI 69 gs out h) SpecsOk.nil) (by kernel_rfl) h
theorem t69 : GoodC C d69 c69 := fun I hI gs out h =>
  LoopC.of_tree_at low mixed names (pl_ok I hI) (specs := []) (fuel := 100000) (sp := s69) (by kernel_rfl) rfl (ps := []) (b := b69) SpecsOk.nil (fun gs out h => hI 69 gs out h) (by kernel_rfl) h
theorem t80 : GoodC C d80 c80 := fun I hI gs out h =>
  FnC.of_tree low mixed names (pl_ok I hI) (specs := []) (fuel := 100000) (c := code30) (pe := []) Tryz.func30 (by kernel_rfl) SpecsOk.nil (by kernel_rfl) h
theorem t91 : GoodC C d91 c91 := fun I hI gs out h =>
  FnC.of_tree low mixed names (pl_ok I hI) (specs := []) (fuel := 100000) (c := code180) (pe := []) Tryz.func180 (by kernel_rfl) SpecsOk.nil (by kernel_rfl) h
theorem t93 : GoodC C d93 c93 := fun I hI gs out h =>
  FnC.of_tree low mixed names (pl_ok I hI) (specs := []) (fuel := 100000) (c := code182) (pe := []) Tryz.func182 (by kernel_rfl) SpecsOk.nil (by kernel_rfl) h
theorem t94 : GoodC C d94 c94 := fun I hI gs out h =>
  FnC.of_tree low mixed names (pl_ok I hI) (specs := [(0, s95)]) (fuel := 100000) (c := code248) (pe := []) Tryz.func248 (by kernel_rfl) (SpecsOk.cons rfl (fun gs out h => hI 95 gs out h) SpecsOk.nil) (by kernel_rfl) h
theorem t96 : GoodC C d96 c96 := fun I hI gs out h =>
  FnC.of_tree low mixed names (pl_ok I hI) (specs := []) (fuel := 100000) (c := code296) (pe := []) Tryz.func296 (by kernel_rfl) SpecsOk.nil (by kernel_rfl) h
theorem t100 : GoodC C d100 c100 := fun I hI gs out h =>
  LoopC.of_tree_at low mixed names (pl_ok I hI) (specs := []) (fuel := 100000) (sp := s100) (by kernel_rfl) rfl (ps := []) (b := b100) SpecsOk.nil (fun gs out h => hI 100 gs out h) (by kernel_rfl) h
theorem t104 : GoodC C d104 c104 := fun I hI gs out h =>
  FnC.of_tree low mixed names (pl_ok I hI) (specs := []) (fuel := 100000) (c := code151) (pe := []) Tryz.func151 (by kernel_rfl) SpecsOk.nil (by kernel_rfl) h
theorem t106 : GoodC C d106 c106 := fun I hI gs out h =>
  LoopC.of_tree_at low mixed names (pl_ok I hI) (specs := []) (fuel := 100000) (sp := s106) (by kernel_rfl) rfl (ps := []) (b := b106) SpecsOk.nil (fun gs out h => hI 106 gs out h) (by kernel_rfl) h
theorem t109 : GoodC C d109 c109 := fun _ _ _ _ h => add64_ok h
theorem t112 : GoodC C d112 c112 := fun I hI gs out h =>
  FnS.of_tree low mixed names (pl_ok I hI) (specs := [(0, s114)]) (fuel := 100000) (c := code73) (pe := []) (sp := s112) rfl Tryz.func73 (by kernel_rfl) (SpecsOk.cons rfl (fun gs out h => hI 114 gs out h) SpecsOk.nil) (by kernel_rfl) h
theorem t115 : GoodC C d115 c115 := fun I hI gs out h =>
  FnS.of_tree low mixed names (pl_ok I hI) (specs := []) (fuel := 100000) (c := code74) (pe := []) (sp := s115) rfl Tryz.func74 (by kernel_rfl) SpecsOk.nil (by kernel_rfl) h
theorem t116 : GoodC C d116 c116 := fun I hI gs out h =>
  FnS.of_tree low mixed names (pl_ok I hI) (specs := [(0, s117)]) (fuel := 100000) (c := code143) (pe := []) (sp := s116) rfl Tryz.func143 (by kernel_rfl) (SpecsOk.cons rfl (fun gs out h => hI 117 gs out h) SpecsOk.nil) (by kernel_rfl) h
theorem t121 : GoodC C d121 c121 := fun I hI gs out h =>
  LoopC.of_tree_at low mixed names (pl_ok I hI) (specs := []) (fuel := 100000) (sp := s121) (by kernel_rfl) rfl (ps := []) (b := b121) SpecsOk.nil (fun gs out h => hI 121 gs out h) (by kernel_rfl) h
theorem t125 : GoodC C d125 c125 := fun I hI gs out h =>
  FnS.of_tree low mixed names (pl_ok I hI) (specs := []) (fuel := 100000) (c := code67) (pe := []) (sp := s125) rfl Tryz.func67 (by kernel_rfl) SpecsOk.nil (by kernel_rfl) h
end X
end Go.Proofs.YtbcpbplkgknnmaaGreatDoor
