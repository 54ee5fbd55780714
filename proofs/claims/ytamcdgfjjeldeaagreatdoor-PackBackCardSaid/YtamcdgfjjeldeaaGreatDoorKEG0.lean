/- Definitions keep their contracts: the ways of the bodies, run by the kernel. -/
import Derived.Test.YtamcdgfjjeldeaaGreatDoorKEP
namespace Go.Proofs.YtamcdgfjjeldeaaGreatDoor
open Go Go.Abs
set_option maxRecDepth 100000
set_option linter.unusedVariables false
set_option linter.unusedSimpArgs false
namespace E
theorem t6 : GoodC C d6 c6 := fun I hI gs out h =>
  FnC.of_tree low mixed names (pl_ok I hI) (specs := [(0, s7)]) (fuel := 100000) (c := code42) (pe := []) Tryz.func42 (by kernel_rfl) (SpecsOk.cons rfl (fun gs out h => hI 7 gs out h) SpecsOk.nil) (by kernel_rfl) h
theorem t12 : GoodC C d12 c12 := fun I hI gs out h =>
  LoopC.of_tree_at low mixed names (pl_ok I hI) (specs := []) (fuel := 100000) (sp := s12) (by kernel_rfl) rfl (ps := []) (b := b12) SpecsOk.nil (fun gs out h => hI 12 gs out h) (by kernel_rfl) h
theorem t23 : GoodC C d23 c23 := fun I hI gs out h =>
  LoopC.of_tree_at low mixed names (pl_ok I hI) (specs := []) (fuel := 100000) (sp := s23) (by kernel_rfl) rfl (ps := []) (b := b23) SpecsOk.nil (fun gs out h => hI 23 gs out h) (by kernel_rfl) h
theorem t24 : GoodC C d24 c24 := fun I hI gs out h =>
  FnC.of_tree low mixed names (pl_ok I hI) (specs := [(0, s25)]) (fuel := 100000) (c := code35) (pe := []) Tryz.func35 (by kernel_rfl) (SpecsOk.cons rfl (fun gs out h => hI 25 gs out h) SpecsOk.nil) (by kernel_rfl) h
theorem t30 : GoodC C d30 c30 := fun I hI gs out h =>
  FnC.of_tree low mixed names (pl_ok I hI) (specs := [(0, s31)]) (fuel := 100000) (c := code36) (pe := []) Tryz.func36 (by kernel_rfl) (SpecsOk.cons rfl (fun gs out h => hI 31 gs out h) SpecsOk.nil) (by kernel_rfl) h
theorem t35 : GoodC C d35 c35 := fun I hI gs out h =>
  LoopC.of_tree_at low mixed names (pl_ok I hI) (specs := []) (fuel := 100000) (sp := s35) (by kernel_rfl) rfl (ps := []) (b := b35) SpecsOk.nil (fun gs out h => hI 35 gs out h) (by kernel_rfl) h
theorem t43 : GoodC C d43 c43 := fun I hI gs out h =>
  LoopC.of_tree_at low mixed names (pl_ok I hI) (specs := []) (fuel := 100000) (sp := s43) (by kernel_rfl) rfl (ps := []) (b := b43) SpecsOk.nil (fun gs out h => hI 43 gs out h) (by kernel_rfl) h
theorem t48 : GoodC C d48 c48 := fun I hI gs out h =>
  FnC.of_tree low mixed names (pl_ok I hI) (specs := []) (fuel := 100000) (c := code116) (pe := []) Tryz.func116 (by kernel_rfl) SpecsOk.nil (by kernel_rfl) h
theorem t53 : GoodC C d53 c53 := fun I hI gs out h =>
  FnC.of_tree low mixed names (pl_ok I hI) (specs := [(0, s54)]) (fuel := 100000) (c := code117) (pe := []) Tryz.func117 (by kernel_rfl) (SpecsOk.cons rfl (fun gs out h => hI 54 gs out h) SpecsOk.nil) (by kernel_rfl) h
theorem t55 : GoodC C d55 c55 := fun I hI gs out h =>
  FnC.of_tree low mixed names (pl_ok I hI) (specs := []) (fuel := 100000) (c := code139) (pe := []) Tryz.func139 (by kernel_rfl) SpecsOk.nil (by kernel_rfl) h
theorem t56 : GoodC C d56 c56 := fun I hI gs out h =>
  FnC.of_tree low mixed names (pl_ok I hI) (specs := []) (fuel := 100000) (c := code177) (pe := []) Tryz.func177 (by kernel_rfl) SpecsOk.nil (by kernel_rfl) h
theorem t60 : GoodC C d60 c60 := fun I hI gs out h =>
  FnC.of_tree low mixed names (pl_ok I hI) (specs := [(0, s61)]) (fuel := 100000) (c := code24) (pe := []) Tryz.func24 (by kernel_rfl) (SpecsOk.cons rfl (fun gs out h => hI 61 gs out h) SpecsOk.nil) (by kernel_rfl) h
theorem t63 : GoodC C d63 c63 := fun I hI gs out h =>
  LoopC.of_tree_at low mixed names (pl_ok I hI) (specs := []) (fuel := 100000) (sp := s63) (by kernel_rfl) rfl (ps := []) (b := b63) SpecsOk.nil (fun gs out h => hI 63 gs out h) (by kernel_rfl) h
theorem t65 : GoodC C d65 c65 := fun I hI gs out h =>
  FnC.of_tree low mixed names (pl_ok I hI) (specs := [(0, s66)]) (fuel := 100000) (c := code26) (pe := []) Tryz.func26 (by kernel_rfl) (SpecsOk.cons rfl (fun gs out h => hI 66 gs out h) SpecsOk.nil) (by kernel_rfl) h
theorem t72 : GoodC C d72 c72 := fun I hI gs out h =>
  FnC.of_tree low mixed names (pl_ok I hI) (specs := [(0, s73)]) (fuel := 100000) (c := code199) (pe := []) Tryz.func199 (by kernel_rfl) (SpecsOk.cons rfl (fun gs out h => hI 73 gs out h) SpecsOk.nil) (by kernel_rfl) h
theorem t74 : GoodC C d74 c74 := fun I hI gs out h =>
  FnC.of_tree low mixed names (pl_ok I hI) (specs := [(0, s75)]) (fuel := 100000) (c := code214) (pe := []) Tryz.func214 (by kernel_rfl) (SpecsOk.cons rfl (fun gs out h => hI 75 gs out h) SpecsOk.nil) (by kernel_rfl) h
theorem t76 : GoodC C d76 c76 := fun I hI gs out h =>
  FnC.of_tree low mixed names (pl_ok I hI) (specs := []) (fuel := 100000) (c := code162) (pe := []) Tryz.func162 (by kernel_rfl) SpecsOk.nil (by kernel_rfl) h
theorem t81 : GoodC C d81 c81 := fun I hI gs out h =>
  LoopC.of_tree_at low mixed names (pl_ok I hI) (specs := []) (fuel := 100000) (sp := s81) (by kernel_rfl) rfl (ps := []) (b := b81) SpecsOk.nil (fun gs out h => hI 81 gs out h) (by kernel_rfl) h
theorem t88 : GoodC C d88 c88 := fun I hI gs out h =>
  LoopC.of_tree_at low mixed names (pl_ok I hI) (specs := []) (fuel := 100000) (sp := s88) (by kernel_rfl) rfl (ps := []) (b := b88) SpecsOk.nil (fun gs out h => hI 88 gs out h) (by kernel_rfl) h
theorem t90 : GoodC C d90 c90 := fun I hI gs out h =>
  FnS.of_tree low mixed names (pl_ok I hI) (specs := []) (fuel := 100000) (c := code200) (pe := []) (sp := s90) rfl Tryz.func200 (by kernel_rfl) SpecsOk.nil (by kernel_rfl) h
theorem t92 : GoodC C d92 c92 := fun I hI gs out h =>
  FnC.of_tree low mixed names (pl_ok I hI) (specs := [(0, s93)]) (fuel := 100000) (c := code55) (pe := []) Tryz.func55 (by kernel_rfl) (SpecsOk.cons rfl (fun gs out h => hI 93 gs out h) SpecsOk.nil) (by kernel_rfl) h
theorem t102 : GoodC C d102 c102 := fun I hI gs out h =>
  LoopC.of_tree_at low mixed names (pl_ok I hI) (specs := []) (fuel := 100000) (sp := s102) (by kernel_rfl) rfl (ps := []) (b := b102) SpecsOk.nil (fun gs out h => hI 102 gs out h) (by kernel_rfl) h
theorem t105 : GoodC C d105 c105 := fun I hI gs out h =>
  FnC.of_tree low mixed names (pl_ok I hI) (specs := [(0, s106)]) (fuel := 100000) (c := code86) (pe := []) Tryz.func86 (by kernel_rfl) (SpecsOk.cons rfl (fun gs out h => hI 106 gs out h) SpecsOk.nil) (by kernel_rfl) h
theorem t108 : GoodC C d108 c108 := fun I hI gs out h =>
  FnC.of_tree low mixed names (pl_ok I hI) (specs := [(0, s109)]) (fuel := 100000) (c := code88) (pe := []) Tryz.func88 (by kernel_rfl) (SpecsOk.cons rfl (fun gs out h => hI 109 gs out h) SpecsOk.nil) (by kernel_rfl) h
theorem t109 : GoodC C d109 c109 := fun I hI gs out h =>
  LoopC.of_tree_at low mixed names (pl_ok I hI) (specs := []) (fuel := 100000) (sp := s109) (by kernel_rfl) rfl (ps := []) (b := b109) SpecsOk.nil (fun gs out h => hI 109 gs out h) (by kernel_rfl) h
end E
end Go.Proofs.YtamcdgfjjeldeaaGreatDoor
