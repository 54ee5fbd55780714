/- Definitions keep their contracts: the ways of the bodies, run by the kernel. -/
import Derived.Test.YtbcpbplkgknnmaaGreatDoorKVP
namespace Go.Proofs.YtbcpbplkgknnmaaGreatDoor
open Go Go.Abs
set_option maxRecDepth 100000
set_option linter.unusedVariables false
set_option linter.unusedSimpArgs false
namespace V
theorem t5 : GoodC C d5 c5 := fun I hI gs out h =>
  LoopC.of_tree_at low mixed names (pl_ok I hI) (specs := []) (fuel := 100000) (sp := s5) (by kernel_rfl) rfl (ps := []) (b := b5) SpecsOk.nil (fun gs out h => hI 5 gs out h) (by kernel_rfl) h
theorem t20 : GoodC C d20 c20 := fun I hI gs out h =>
  FnC.of_tree low mixed names (pl_ok I hI) (specs := [(0, s21)]) (fuel := 100000) (c := code157) (pe := []) Tryz.func157 (by kernel_rfl) (SpecsOk.cons rfl (fun gs out h => hI 21 gs out h) SpecsOk.nil) (by kernel_rfl) h
theorem t21 : GoodC C d21 c21 := fun I hI gs out h =>
  LoopC.of_tree_at low mixed names (pl_ok I hI) (specs := []) (fuel := 100000) (sp := s21) (by kernel_rfl) rfl (ps := []) (b := b21) SpecsOk.nil (fun gs out h => hI 21 gs out h) (by kernel_rfl) h
theorem t22 : GoodC C d22 c22 := fun I hI gs out h =>
  FnC.of_tree low mixed names (pl_ok I hI) (specs := []) (fuel := 100000) (c := code212) (pe := []) Tryz.func212 (by kernel_rfl) SpecsOk.nil (by kernel_rfl) h
theorem t23 : GoodC C d23 c23 := fun I hI gs out h =>
  FnC.of_tree low mixed names (pl_ok I hI) (specs := []) (fuel := 100000) (c := code189) (pe := []) Tryz.func189 (by kernel_rfl) SpecsOk.nil (by kernel_rfl) h
theorem t29 : GoodC C d29 c29 := fun _ _ _ _ h => cloneP_ok123 h
theorem t35 : GoodC C d35 c35 := fun I hI gs out h =>
  LoopC.of_tree_at low mixed names (pl_ok I hI) (specs := []) (fuel := 100000) (sp := s35) (by kernel_rfl) rfl (ps := []) (b := b35) SpecsOk.nil (fun gs out h => hI 35 gs out h) (by kernel_rfl) h
theorem t44 : GoodC C d44 c44 := fun I hI gs out h =>
  LoopC.of_tree_at low mixed names (pl_ok I hI) (specs := []) (fuel := 100000) (sp := s44) (by kernel_rfl) rfl (ps := []) (b := b44) SpecsOk.nil (fun gs out h => hI 44 gs out h) (by kernel_rfl) h
theorem t45 : GoodC C d45 c45 := fun I hI gs out h =>
  FnS.of_tree low mixed names (pl_ok I hI) (specs := []) (fuel := 100000) (c := code66) (pe := []) (sp := s45) rfl Tryz.func66 (by kernel_rfl) SpecsOk.nil (by kernel_rfl) h
theorem t46 : GoodC C d46 c46 := fun I hI gs out h =>
  FnS.of_tree low mixed names (pl_ok I hI) (specs := [(0, s47)]) (fuel := 100000) (c := code63) (pe := []) (sp := s46) rfl Tryz.func63 (by kernel_rfl) (SpecsOk.cons rfl (fun gs out h => hI 47 gs out h) SpecsOk.nil) (by kernel_rfl) h
theorem t48 : GoodC C d48 c48 := fun I hI gs out h =>
  FnS.of_tree low mixed names (pl_ok I hI) (specs := []) (fuel := 100000) (c := code74) (pe := []) (sp := s48) rfl Tryz.func74 (by kernel_rfl) SpecsOk.nil (by kernel_rfl) h
theorem t49 : GoodC C d49 c49 := fun I hI gs out h =>
  FnC.of_tree low mixed names (pl_ok I hI) (specs := [(0, s53)]) (fuel := 100000) (c := code147) (pe := []) Tryz.func147 (by kernel_rfl) (SpecsOk.cons rfl (fun gs out h => hI 53 gs out h) SpecsOk.nil) (by kernel_rfl) h
theorem t50 : GoodC C d50 c50 := fun I hI gs out h =>
  FnC.of_tree low mixed names (pl_ok I hI) (specs := [(0, s51)]) (fuel := 100000) (c := code25) (pe := []) Tryz.func25 (by kernel_rfl) (SpecsOk.cons rfl (fun gs out h => hI 51 gs out h) SpecsOk.nil) (by kernel_rfl) h
theorem t53 : GoodC C d53 c53 := fun I hI gs out h =>
  LoopC.of_tree_at low mixed names (pl_ok I hI) (specs := []) (fuel := 100000) (sp := s53) (by kernel_rfl) rfl (ps := []) (b := b53) SpecsOk.nil (fun gs out h => hI 53 gs out h) (by kernel_rfl) h
theorem t54 : GoodC C d54 c54 := fun I hI gs out h =>
  FnC.of_tree low mixed names (pl_ok I hI) (specs := []) (fuel := 100000) (c := code20) (pe := []) Tryz.func20 (by kernel_rfl) SpecsOk.nil (by kernel_rfl) h
theorem t58 : GoodC C d58 c58 := fun I hI gs out h =>
  FnC.of_tree low mixed names (pl_ok I hI) (specs := [(0, s59)]) (fuel := 100000) (c := code91) (pe := []) Tryz.func91 (by kernel_rfl) (SpecsOk.cons rfl (fun gs out h => hI 59 gs out h) SpecsOk.nil) (by kernel_rfl) h
end V
end Go.Proofs.YtbcpbplkgknnmaaGreatDoor
