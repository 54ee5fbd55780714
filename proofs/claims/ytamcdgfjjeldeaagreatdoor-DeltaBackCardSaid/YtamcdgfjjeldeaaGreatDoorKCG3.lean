/- Definitions keep their contracts: the ways of the bodies, run by the kernel. -/
import Derived.Test.YtamcdgfjjeldeaaGreatDoorKCP
namespace Go.Proofs.YtamcdgfjjeldeaaGreatDoor
open Go Go.Abs
set_option maxRecDepth 100000
set_option linter.unusedVariables false
set_option linter.unusedSimpArgs false
namespace C
theorem t1 : GoodC C d1 c1 := fun I hI gs out h =>
  FnC.of_tree low mixed names (pl_ok I hI) (specs := []) (fuel := 100000) (c := code3) (pe := []) Tryz.func3 (by kernel_rfl) SpecsOk.nil (by kernel_rfl) h
theorem t5 : GoodC C d5 c5 := fun I hI gs out h =>
  LoopC.of_tree_at low mixed names (pl_ok I hI) (specs := []) (fuel := 100000) (sp := s5) (by kernel_rfl) rfl (ps := []) (b := b5) SpecsOk.nil (fun gs out h => hI 5 gs out h) (by kernel_rfl) h
theorem t11 : GoodC C d11 c11 := fun I hI gs out h =>
  LoopC.of_tree_at low mixed names (pl_ok I hI) (specs := []) (fuel := 100000) (sp := s11) (by kernel_rfl) rfl (ps := []) (b := b11) SpecsOk.nil (fun gs out h => hI 11 gs out h) (by kernel_rfl) h
theorem t12 : GoodC C d12 c12 := fun I hI gs out h =>
  FnC.of_tree low mixed names (pl_ok I hI) (specs := []) (fuel := 100000) (c := code116) (pe := []) Tryz.func116 (by kernel_rfl) SpecsOk.nil (by kernel_rfl) h
theorem t15 : GoodC C d15 c15 := fun I hI gs out h =>
  FnC.of_tree low mixed names (pl_ok I hI) (specs := []) (fuel := 100000) (c := code82) (pe := []) Tryz.func82 (by kernel_rfl) SpecsOk.nil (by kernel_rfl) h
theorem t22 : GoodC C d22 c22 := fun I hI gs out h =>
  LoopC.of_tree_at low mixed names (pl_ok I hI) (specs := []) (fuel := 100000) (sp := s22) (by kernel_rfl) rfl (ps := []) (b := b22) SpecsOk.nil (fun gs out h => hI 22 gs out h) (by kernel_rfl) h
theorem t24 : GoodC C d24 c24 := fun I hI gs out h =>
  FnC.of_tree low mixed names (pl_ok I hI) (specs := [(0, s25)]) (fuel := 100000) (c := code18) (pe := []) Tryz.func18 (by kernel_rfl) (SpecsOk.cons rfl (fun gs out h => hI 25 gs out h) SpecsOk.nil) (by kernel_rfl) h
theorem t25 : GoodC C d25 c25 := fun I hI gs out h =>
  LoopC.of_tree_at low mixed names (pl_ok I hI) (specs := [(0, s26)]) (fuel := 100000) (sp := s25) (by kernel_rfl) rfl (ps := []) (b := b25) (SpecsOk.cons rfl (fun gs out h => hI 26 gs out h) SpecsOk.nil) (fun gs out h => hI 25 gs out h) (by kernel_rfl) h
theorem t29 : GoodC C d29 c29 := fun I hI gs out h =>
  LoopC.of_tree_at low mixed names (pl_ok I hI) (specs := []) (fuel := 100000) (sp := s29) (by kernel_rfl) rfl (ps := []) (b := b29) SpecsOk.nil (fun gs out h => hI 29 gs out h) (by kernel_rfl) h
theorem t41 : GoodC C d41 c41 := fun I hI gs out h =>
  FnC.of_tree low mixed names (pl_ok I hI) (specs := []) (fuel := 100000) (c := code61) (pe := []) Tryz.func61 (by kernel_rfl) SpecsOk.nil (by kernel_rfl) h
theorem t42 : GoodC C d42 c42 := fun I hI gs out h =>
  FnC.of_tree low mixed names (pl_ok I hI) (specs := [(0, s43)]) (fuel := 100000) (c := code109) (pe := []) Tryz.func109 (by kernel_rfl) (SpecsOk.cons rfl (fun gs out h => hI 43 gs out h) SpecsOk.nil) (by kernel_rfl) h
theorem t45 : GoodC C d45 c45 := fun _ _ _ _ h => cmp_ok h
theorem t48 : GoodC C d48 c48 := fun I hI gs out h =>
  FnC.of_tree low mixed names (pl_ok I hI) (specs := [(0, s50)]) (fuel := 100000) (c := code58) (pe := []) Tryz.func58 (by kernel_rfl) (SpecsOk.cons rfl (fun gs out h => hI 50 gs out h) SpecsOk.nil) (by kernel_rfl) h
end C
end Go.Proofs.YtamcdgfjjeldeaaGreatDoor
