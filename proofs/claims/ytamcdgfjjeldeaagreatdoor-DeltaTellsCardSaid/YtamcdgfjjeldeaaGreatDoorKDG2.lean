/- Definitions keep their contracts: the ways of the bodies, run by the kernel. -/
import Derived.Test.YtamcdgfjjeldeaaGreatDoorKDP
namespace Go.Proofs.YtamcdgfjjeldeaaGreatDoor
open Go Go.Abs
set_option maxRecDepth 100000
set_option linter.unusedVariables false
set_option linter.unusedSimpArgs false
namespace D
theorem t2 : GoodC C d2 c2 := fun I hI gs out h =>
  FnC.of_tree low mixed names (pl_ok I hI) (specs := [(0, s3)]) (fuel := 100000) (c := code16) (pe := []) Tryz.func16 (by kernel_rfl) (SpecsOk.cons rfl (fun gs out h => hI 3 gs out h) SpecsOk.nil) (by kernel_rfl) h
theorem t5 : GoodC C d5 c5 := fun I hI gs out h =>
  LoopC.of_tree_at low mixed names (pl_ok I hI) (specs := []) (fuel := 100000) (sp := s5) (by kernel_rfl) rfl (ps := []) (b := b5) SpecsOk.nil (fun gs out h => hI 5 gs out h) (by kernel_rfl) h
theorem t11 : GoodC C d11 c11 := fun I hI gs out h =>
  LoopC.of_tree_at low mixed names (pl_ok I hI) (specs := []) (fuel := 100000) (sp := s11) (by kernel_rfl) rfl (ps := []) (b := b11) SpecsOk.nil (fun gs out h => hI 11 gs out h) (by kernel_rfl) h
theorem t13 : GoodC C d13 c13 := fun I hI gs out h =>
  FnC.of_tree low mixed names (pl_ok I hI) (specs := [(0, s14), (1, s22)]) (fuel := 100000) (c := code17) (pe := []) Tryz.func17 (by kernel_rfl) (SpecsOk.cons rfl (fun gs out h => hI 14 gs out h) (SpecsOk.cons rfl (fun gs out h => hI 22 gs out h) SpecsOk.nil)) (by kernel_rfl) h
theorem t15 : GoodC C d15 c15 := fun I hI gs out h =>
  FnC.of_tree low mixed names (pl_ok I hI) (specs := []) (fuel := 100000) (c := code82) (pe := []) Tryz.func82 (by kernel_rfl) SpecsOk.nil (by kernel_rfl) h
theorem t16 : GoodC C d16 c16 := fun I hI gs out h =>
  FnC.of_tree low mixed names (pl_ok I hI) (specs := [(0, s17)]) (fuel := 100000) (c := code117) (pe := []) Tryz.func117 (by kernel_rfl) (SpecsOk.cons rfl (fun gs out h => hI 17 gs out h) SpecsOk.nil) (by kernel_rfl) h
theorem t17 : GoodC C d17 c17 := fun I hI gs out h =>
  LoopC.of_tree_at low mixed names (pl_ok I hI) (specs := []) (fuel := 100000) (sp := s17) (by kernel_rfl) rfl (ps := []) (b := b17) SpecsOk.nil (fun gs out h => hI 17 gs out h) (by kernel_rfl) h
theorem t26 : GoodC C d26 c26 := fun I hI gs out h =>
  LoopC.of_tree_at low mixed names (pl_ok I hI) (specs := []) (fuel := 100000) (sp := s26) (by kernel_rfl) rfl (ps := []) (b := b26) SpecsOk.nil (fun gs out h => hI 26 gs out h) (by kernel_rfl) h
theorem t27 : GoodC C d27 c27 := fun I hI gs out h =>
  FnC.of_tree low mixed names (pl_ok I hI) (specs := []) (fuel := 100000) (c := code19) (pe := []) Tryz.func19 (by kernel_rfl) SpecsOk.nil (by kernel_rfl) h
theorem t36 : GoodC C d36 c36 := fun I hI gs out h =>
  LoopC.of_tree_at low mixed names (pl_ok I hI) (specs := []) (fuel := 100000) (sp := s36) (by kernel_rfl) rfl (ps := []) (b := b36) SpecsOk.nil (fun gs out h => hI 36 gs out h) (by kernel_rfl) h
theorem t39 : GoodC C d39 c39 := fun I hI gs out h =>
  FnC.of_tree low mixed names (pl_ok I hI) (specs := []) (fuel := 100000) (c := code10) (pe := [1]) Tryz.func10 (by kernel_rfl) SpecsOk.nil (by kernel_rfl) h
theorem t42 : GoodC C d42 c42 := fun I hI gs out h =>
  FnC.of_tree low mixed names (pl_ok I hI) (specs := [(0, s43)]) (fuel := 100000) (c := code109) (pe := []) Tryz.func109 (by kernel_rfl) (SpecsOk.cons rfl (fun gs out h => hI 43 gs out h) SpecsOk.nil) (by kernel_rfl) h
theorem t45 : GoodC C d45 c45 := fun _ _ _ _ h => cmp_ok h
theorem t51 : GoodC C d51 c51 := fun I hI gs out h =>
  FnC.of_tree low mixed names (pl_ok I hI) (specs := []) (fuel := 100000) (c := code59) (pe := []) Tryz.func59 (by kernel_rfl) SpecsOk.nil (by kernel_rfl) h
theorem t52 : GoodC C d52 c52 := fun I hI gs out h =>
  FnC.of_tree low mixed names (pl_ok I hI) (specs := []) (fuel := 100000) (c := code12) (pe := []) Tryz.func12 (by kernel_rfl) SpecsOk.nil (by kernel_rfl) h
theorem t54 : GoodC C d54 c54 := fun I hI gs out h =>
  FnC.of_tree low mixed names (pl_ok I hI) (specs := [(0, s55)]) (fuel := 100000) (c := code24) (pe := []) Tryz.func24 (by kernel_rfl) (SpecsOk.cons rfl (fun gs out h => hI 55 gs out h) SpecsOk.nil) (by kernel_rfl) h
theorem t58 : GoodC C d58 c58 := fun I hI gs out h =>
  FnC.of_tree low mixed names (pl_ok I hI) (specs := [(0, s84)]) (fuel := 100000) (c := code63) (pe := []) Tryz.func63 (by kernel_rfl) (SpecsOk.cons rfl (fun gs out h => hI 84 gs out h) SpecsOk.nil) (by kernel_rfl) h
theorem t60 : GoodC C d60 c60 := fun I hI gs out h =>
  LoopC.of_tree_at low mixed names (pl_ok I hI) (specs := []) (fuel := 100000) (sp := s60) (by kernel_rfl) rfl (ps := []) (b := b60) SpecsOk.nil (fun gs out h => hI 60 gs out h) (by kernel_rfl) h
theorem t74 : GoodC C d74 c74 := fun I hI gs out h =>
  FnC.of_tree low mixed names (pl_ok I hI) (specs := [(0, s77)]) (fuel := 100000) (c := code91) (pe := []) Tryz.func91 (by kernel_rfl) (SpecsOk.cons rfl (fun gs out h => hI 77 gs out h) SpecsOk.nil) (by kernel_rfl) h
theorem t78 : GoodC C d78 c78 := fun I hI gs out h =>
  FnC.of_tree low mixed names (pl_ok I hI) (specs := []) (fuel := 100000) (c := code126) (pe := []) Tryz.func126 (by kernel_rfl) SpecsOk.nil (by kernel_rfl) h
theorem t80 : GoodC C d80 c80 := fun I hI gs out h =>
  FnC.of_tree low mixed names (pl_ok I hI) (specs := [(0, s81)]) (fuel := 100000) (c := code30) (pe := []) Tryz.func30 (by kernel_rfl) (SpecsOk.cons rfl (fun gs out h => hI 81 gs out h) SpecsOk.nil) (by kernel_rfl) h
theorem t84 : GoodC C d84 c84 := fun I hI gs out h =>
  LoopC.of_tree_at low mixed names (pl_ok I hI) (specs := []) (fuel := 100000) (sp := s84) (by kernel_rfl) rfl (ps := []) (b := b84) SpecsOk.nil (fun gs out h => hI 84 gs out h) (by kernel_rfl) h
theorem t87 : GoodC C d87 c87 := fun I hI gs out h =>
  FnC.of_tree low mixed names (pl_ok I hI) (specs := []) (fuel := 100000) (c := code70) (pe := []) Tryz.func70 (by kernel_rfl) SpecsOk.nil (by kernel_rfl) h
theorem t92 : GoodC C d92 c92 := fun I hI gs out h =>
  LoopC.of_tree_at low mixed names (pl_ok I hI) (specs := []) (fuel := 100000) (sp := s92) (by kernel_rfl) rfl (ps := []) (b := b92) SpecsOk.nil (fun gs out h => hI 92 gs out h) (by kernel_rfl) h
theorem t97 : GoodC C d97 c97 := fun I hI gs out h =>
  FnC.of_tree low mixed names (pl_ok I hI) (specs := [(0, s98)]) (fuel := 100000) (c := code25) (pe := []) Tryz.func25 (by kernel_rfl) (SpecsOk.cons rfl (fun gs out h => hI 98 gs out h) SpecsOk.nil) (by kernel_rfl) h
theorem t100 : GoodC C d100 c100 := fun I hI gs out h =>
  FnC.of_tree low mixed names (pl_ok I hI) (specs := []) (fuel := 100000) (c := code69) (pe := []) Tryz.func69 (by kernel_rfl) SpecsOk.nil (by kernel_rfl) h
end D
end Go.Proofs.YtamcdgfjjeldeaaGreatDoor
