/- Definitions keep their contracts: the ways of the bodies, run by the kernel. -/
import Derived.Test.YtamcdgfjjeldeaaGreatDoorKDP
namespace Go.Proofs.YtamcdgfjjeldeaaGreatDoor
open Go Go.Abs
set_option maxRecDepth 100000
set_option linter.unusedVariables false
set_option linter.unusedSimpArgs false
namespace D
theorem t0 : GoodC C d0 c0 := fun _ _ _ _ h => h
theorem t1 : GoodC C d1 c1 := fun I hI gs out h =>
  FnC.of_tree low mixed names (pl_ok I hI) (specs := []) (fuel := 100000) (c := code3) (pe := []) Tryz.func3 (by kernel_rfl) SpecsOk.nil (by kernel_rfl) h
theorem t3 : GoodC C d3 c3 := fun I hI gs out h =>
  LoopC.of_tree_at low mixed names (pl_ok I hI) (specs := []) (fuel := 100000) (sp := s3) (by kernel_rfl) rfl (ps := []) (b := b3) SpecsOk.nil (fun gs out h => hI 3 gs out h) (by kernel_rfl) h
theorem t4 : GoodC C d4 c4 := fun I hI gs out h =>
  FnC.of_tree low mixed names (pl_ok I hI) (specs := [(0, s5)]) (fuel := 100000) (c := code22) (pe := []) Tryz.func22 (by kernel_rfl) (SpecsOk.cons rfl (fun gs out h => hI 5 gs out h) SpecsOk.nil) (by kernel_rfl) h
theorem t6 : GoodC C d6 c6 := fun I hI gs out h =>
  FnC.of_tree low mixed names (pl_ok I hI) (specs := [(0, s11)]) (fuel := 100000) (c := code81) (pe := []) Tryz.func81 (by kernel_rfl) (SpecsOk.cons rfl (fun gs out h => hI 11 gs out h) SpecsOk.nil) (by kernel_rfl) h
theorem t7 : GoodC C d7 c7 := fun I hI gs out h =>
  FnC.of_tree low mixed names (pl_ok I hI) (specs := [(0, s10)]) (fuel := 100000) (c := code99) (pe := []) Tryz.func99 (by kernel_rfl) (SpecsOk.cons rfl (fun gs out h => hI 10 gs out h) SpecsOk.nil) (by kernel_rfl) h
theorem t9 : GoodC C d9 c9 := fun I hI gs out h =>
  LoopC.of_tree_at low mixed names (pl_ok I hI) (specs := []) (fuel := 100000) (sp := s9) (by kernel_rfl) rfl (ps := []) (b := b9) SpecsOk.nil (fun gs out h => hI 9 gs out h) (by kernel_rfl) h
theorem t12 : GoodC C d12 c12 := fun I hI gs out h =>
  FnC.of_tree low mixed names (pl_ok I hI) (specs := []) (fuel := 100000) (c := code116) (pe := []) Tryz.func116 (by kernel_rfl) SpecsOk.nil (by kernel_rfl) h
theorem t14 : GoodC C d14 c14 := fun I hI gs out h =>
  LoopC.of_tree_at low mixed names (pl_ok I hI) (specs := []) (fuel := 100000) (sp := s14) (by kernel_rfl) rfl (ps := []) (b := b14) SpecsOk.nil (fun gs out h => hI 14 gs out h) (by kernel_rfl) h
theorem t19 : GoodC C d19 c19 := fun I hI gs out h =>
  FnC.of_tree low mixed names (pl_ok I hI) (specs := []) (fuel := 100000) (c := code177) (pe := []) Tryz.func177 (by kernel_rfl) SpecsOk.nil (by kernel_rfl) h
theorem t23 : GoodC C d23 c23 := fun _ _ _ _ h => cloneP_ok123 h
theorem t24 : GoodC C d24 c24 := fun I hI gs out h =>
  FnC.of_tree low mixed names (pl_ok I hI) (specs := [(0, s25)]) (fuel := 100000) (c := code18) (pe := []) Tryz.func18 (by kernel_rfl) (SpecsOk.cons rfl (fun gs out h => hI 25 gs out h) SpecsOk.nil) (by kernel_rfl) h
theorem t25 : GoodC C d25 c25 := fun I hI gs out h =>
  LoopC.of_tree_at low mixed names (pl_ok I hI) (specs := [(0, s26)]) (fuel := 100000) (sp := s25) (by kernel_rfl) rfl (ps := []) (b := b25) (SpecsOk.cons rfl (fun gs out h => hI 26 gs out h) SpecsOk.nil) (fun gs out h => hI 25 gs out h) (by kernel_rfl) h
theorem t34 : GoodC C d34 c34 := fun I hI gs out h =>
  LoopC.of_tree_at low mixed names (pl_ok I hI) (specs := []) (fuel := 100000) (sp := s34) (by kernel_rfl) rfl (ps := []) (b := b34) SpecsOk.nil (fun gs out h => hI 34 gs out h) (by kernel_rfl) h
theorem t37 : GoodC C d37 c37 := fun I hI gs out h =>
  FnC.of_tree low mixed names (pl_ok I hI) (specs := [(0, s38)]) (fuel := 100000) (c := code21) (pe := []) Tryz.func21 (by kernel_rfl) (SpecsOk.cons rfl (fun gs out h => hI 38 gs out h) SpecsOk.nil) (by kernel_rfl) h
theorem t44 : GoodC C d44 c44 := fun I hI gs out h =>
  FnC.of_tree low mixed names (pl_ok I hI) (specs := []) (fuel := 100000) (c := code110) (pe := []) Tryz.func110 (by kernel_rfl) SpecsOk.nil (by kernel_rfl) h
theorem t47 : GoodC C d47 c47 := fun I hI gs out h =>
  FnC.of_tree low mixed names (pl_ok I hI) (specs := []) (fuel := 100000) (c := code11) (pe := []) Tryz.func11 (by kernel_rfl) SpecsOk.nil (by kernel_rfl) h
theorem t48 : GoodC C d48 c48 := fun I hI gs out h =>
  FnC.of_tree low mixed names (pl_ok I hI) (specs := [(0, s50)]) (fuel := 100000) (c := code58) (pe := []) Tryz.func58 (by kernel_rfl) (SpecsOk.cons rfl (fun gs out h => hI 50 gs out h) SpecsOk.nil) (by kernel_rfl) h
theorem t55 : GoodC C d55 c55 := fun I hI gs out h =>
  LoopC.of_tree_at low mixed names (pl_ok I hI) (specs := []) (fuel := 100000) (sp := s55) (by kernel_rfl) rfl (ps := []) (b := b55) SpecsOk.nil (fun gs out h => hI 55 gs out h) (by kernel_rfl) h
theorem t56 : GoodC C d56 c56 := fun I hI gs out h =>
  FnC.of_tree low mixed names (pl_ok I hI) (specs := [(0, s57)]) (fuel := 100000) (c := code29) (pe := []) Tryz.func29 (by kernel_rfl) (SpecsOk.cons rfl (fun gs out h => hI 57 gs out h) SpecsOk.nil) (by kernel_rfl) h
theorem t66 : GoodC C d66 c66 := fun I hI gs out h =>
  FnC.of_tree low mixed names (pl_ok I hI) (specs := [(0, s67)]) (fuel := 100000) (c := code199) (pe := []) Tryz.func199 (by kernel_rfl) (SpecsOk.cons rfl (fun gs out h => hI 67 gs out h) SpecsOk.nil) (by kernel_rfl) h
theorem t71 : GoodC C d71 c71 := fun I hI gs out h =>
  FnC.of_tree low mixed names (pl_ok I hI) (specs := []) (fuel := 100000) (c := code125) (pe := []) Tryz.func125 (by kernel_rfl) SpecsOk.nil (by kernel_rfl) h
theorem t77 : GoodC C d77 c77 := fun I hI gs out h =>
  LoopC.of_tree_at low mixed names (pl_ok I hI) (specs := []) (fuel := 100000) (sp := s77) (by kernel_rfl) rfl (ps := []) (b := b77) SpecsOk.nil (fun gs out h => hI 77 gs out h) (by kernel_rfl) h
theorem t89 : GoodC C d89 c89 := fun I hI gs out h =>
  LoopC.of_tree_at low mixed names (pl_ok I hI) (specs := []) (fuel := 100000) (sp := s89) (by kernel_rfl) rfl (ps := []) (b := b89) SpecsOk.nil (fun gs out h => hI 89 gs out h) (by kernel_rfl) h
theorem t94 : GoodC C d94 c94 := fun I hI gs out h =>
  LoopC.of_tree_at low mixed names (pl_ok I hI) (specs := []) (fuel := 100000) (sp := s94) (by kernel_rfl) rfl (ps := []) (b := b94) SpecsOk.nil (fun gs out h => hI 94 gs out h) (by kernel_rfl) h
theorem t99 : GoodC C d99 c99 := fun I hI gs out h =>
  LoopC.of_tree_at low mixed names (pl_ok I hI) (specs := []) (fuel := 100000) (sp := s99) (by kernel_rfl) rfl (ps := []) (b := b99) SpecsOk.nil (fun gs out h => hI 99 gs out h) (by kernel_rfl) h
end D
end Go.Proofs.YtamcdgfjjeldeaaGreatDoor
