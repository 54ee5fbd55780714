/- Definitions keep their contracts: the ways of the bodies, run by the kernel. -/
import Derived.Test.YtbcpbplkgknnmaaGreatDoorKWP
namespace Go.Proofs.YtbcpbplkgknnmaaGreatDoor
open Go Go.Abs
set_option maxRecDepth 100000
set_option linter.unusedVariables false
set_option linter.unusedSimpArgs false
namespace W
theorem t2 : GoodC C d2 c2 := fun I hI gs out h =>
  FnC.of_tree low mixed names (pl_ok I hI) (specs := [(0, s3)]) (fuel := 100000) (c := code12) (pe := []) Tryz.func12 (by kernel_rfl) (SpecsOk.cons rfl (fun gs out h => hI 3 gs out h) SpecsOk.nil) (by kernel_rfl) h
theorem t6 : GoodC C d6 c6 := fun I hI gs out h =>
  FnC.of_tree low mixed names (pl_ok I hI) (specs := [(0, s11)]) (fuel := 100000) (c := code81) (pe := []) Tryz.func81 (by kernel_rfl) (SpecsOk.cons rfl (fun gs out h => hI 11 gs out h) SpecsOk.nil) (by kernel_rfl) h
theorem t7 : GoodC C d7 c7 := fun I hI gs out h =>
  FnC.of_tree low mixed names (pl_ok I hI) (specs := [(0, s10)]) (fuel := 100000) (c := code96) (pe := []) Tryz.func96 (by kernel_rfl) (SpecsOk.cons rfl (fun gs out h => hI 10 gs out h) SpecsOk.nil) (by kernel_rfl) h
theorem t8 : GoodC C d8 c8 := fun I hI gs out h =>
  FnC.of_tree low mixed names (pl_ok I hI) (specs := [(0, s9)]) (fuel := 100000) (c := code169) (pe := []) Tryz.func169 (by kernel_rfl) (SpecsOk.cons rfl (fun gs out h => hI 9 gs out h) SpecsOk.nil) (by kernel_rfl) h
theorem t11 : GoodC C d11 c11 := fun I hI gs out h =>
  LoopC.of_tree_at low mixed names (pl_ok I hI) (specs := []) (fuel := 100000) (sp := s11) (by kernel_rfl) rfl (ps := []) (b := b11) SpecsOk.nil (fun gs out h => hI 11 gs out h) (by kernel_rfl) h
theorem t21 : GoodC C d21 c21 := fun I hI gs out h =>
  FnC.of_tree low mixed names (pl_ok I hI) (specs := [(0, s22)]) (fuel := 100000) (c := code148) (pe := []) Tryz.func148 (by kernel_rfl) (SpecsOk.cons rfl (fun gs out h => hI 22 gs out h) SpecsOk.nil) (by kernel_rfl) h
theorem t22 : GoodC C d22 c22 := fun I hI gs out h =>
  LoopC.of_tree_at low mixed names (pl_ok I hI) (specs := []) (fuel := 100000) (sp := s22) (by kernel_rfl) rfl (ps := []) (b := b22) SpecsOk.nil (fun gs out h => hI 22 gs out h) (by kernel_rfl) h
theorem t26 : GoodC C d26 c26 := fun I hI gs out h =>
  FnC.of_tree low mixed names (pl_ok I hI) (specs := [(0, s27)]) (fuel := 100000) (c := code18) (pe := []) Tryz.func18 (by kernel_rfl) (SpecsOk.cons rfl (fun gs out h => hI 27 gs out h) SpecsOk.nil) (by kernel_rfl) h
theorem t30 : GoodC C d30 c30 := fun I hI gs out h =>
  LoopC.of_tree_at low mixed names (pl_ok I hI) (specs := []) (fuel := 100000) (sp := s30) (by kernel_rfl) rfl (ps := []) (b := b30) SpecsOk.nil (fun gs out h => hI 30 gs out h) (by kernel_rfl) h
theorem t31 : GoodC C d31 c31 := fun I hI gs out h =>
  FnC.of_tree low mixed names (pl_ok I hI) (specs := []) (fuel := 100000) (c := code212) (pe := []) Tryz.func212 (by kernel_rfl) SpecsOk.nil (by kernel_rfl) h
theorem t36 : GoodC C d36 c36 := fun I hI gs out h =>
  FnC.of_tree low mixed names (pl_ok I hI) (specs := [(0, s37)]) (fuel := 100000) (c := code152) (pe := []) Tryz.func152 (by kernel_rfl) (SpecsOk.cons rfl (fun gs out h => hI 37 gs out h) SpecsOk.nil) (by kernel_rfl) h
theorem t40 : GoodC C d40 c40 := fun _ _ _ _ h => cmp_ok h
theorem t41 : GoodC C d41 c41 := fun _ _ _ _ h => add64_ok h
theorem t46 : GoodC C d46 c46 := fun I hI gs out h =>
  FnS.of_tree low mixed names (pl_ok I hI) (specs := []) (fuel := 100000) (c := code74) (pe := []) (sp := s46) rfl Tryz.func74 (by kernel_rfl) SpecsOk.nil (by kernel_rfl) h
theorem t49 : GoodC C d49 c49 := fun I hI gs out h =>
  FnC.of_tree low mixed names (pl_ok I hI) (specs := [(0, s53)]) (fuel := 100000) (c := code147) (pe := []) Tryz.func147 (by kernel_rfl) (SpecsOk.cons rfl (fun gs out h => hI 53 gs out h) SpecsOk.nil) (by kernel_rfl) h
theorem t53 : GoodC C d53 c53 := fun I hI gs out h =>
  LoopC.of_tree_at low mixed names (pl_ok I hI) (specs := []) (fuel := 100000) (sp := s53) (by kernel_rfl) rfl (ps := []) (b := b53) SpecsOk.nil (fun gs out h => hI 53 gs out h) (by kernel_rfl) h
theorem t57 : GoodC C d57 c57 := fun I hI gs out h =>
  FnS.of_tree low mixed names (pl_ok I hI) (specs := []) (fuel := 100000) (c := code149) (pe := []) (sp := s57) rfl Tryz.func149 (by kernel_rfl) SpecsOk.nil (by kernel_rfl) h
theorem t60 : GoodC C d60 c60 := fun I hI gs out h =>
  LoopC.of_tree_at low mixed names (pl_ok I hI) (specs := []) (fuel := 100000) (sp := s60) (by kernel_rfl) rfl (ps := []) (b := b60) SpecsOk.nil (fun gs out h => hI 60 gs out h) (by kernel_rfl) h
theorem t64 : GoodC C d64 c64 := fun I hI gs out h =>
  FnS.of_tree low mixed names (pl_ok I hI) (specs := []) (fuel := 100000) (c := code70) (pe := []) (sp := s64) rfl Tryz.func70 (by kernel_rfl) SpecsOk.nil (by kernel_rfl) h
end W
end Go.Proofs.YtbcpbplkgknnmaaGreatDoor
