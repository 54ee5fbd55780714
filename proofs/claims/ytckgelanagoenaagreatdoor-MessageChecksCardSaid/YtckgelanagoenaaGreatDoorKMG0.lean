/- Definitions keep their contracts: the ways of the bodies, run by the kernel. -/
import Derived.Test.YtckgelanagoenaaGreatDoorKMP
namespace Go.Proofs.YtckgelanagoenaaGreatDoor
open Go Go.Abs
set_option maxRecDepth 100000
set_option linter.unusedVariables false
set_option linter.unusedSimpArgs false
namespace M
theorem t4 : GoodC C d4 c4 := fun I hI gs out h =>
  FnC.of_tree low mixed names (pl_ok I hI) (specs := [(0, s5)]) (fuel := 100000) (c := code56) (pe := []) Tryz.func56 (by kernel_rfl) (SpecsOk.cons rfl (fun gs out h => hI 5 gs out h) SpecsOk.nil) (by kernel_rfl) h
theorem t8 : GoodC C d8 c8 := fun I hI gs out h =>
  FnC.of_tree low mixed names (pl_ok I hI) (specs := [(0, s9)]) (fuel := 100000) (c := code140) (pe := []) Tryz.func140 (by kernel_rfl) (SpecsOk.cons rfl (fun gs out h => hI 9 gs out h) SpecsOk.nil) (by kernel_rfl) h
theorem t11 : GoodC C d11 c11 := fun I hI gs out h =>
  LoopC.of_tree_at low mixed names (pl_ok I hI) (specs := []) (fuel := 100000) (sp := s11) (by kernel_rfl) rfl (ps := []) (b := b11) SpecsOk.nil (fun gs out h => hI 11 gs out h) (by kernel_rfl) h
theorem t12 : GoodC C d12 c12 := fun I hI gs out h =>
  FnC.of_tree low mixed names (pl_ok I hI) (specs := []) (fuel := 100000) (c := code132) (pe := []) Tryz.func132 (by kernel_rfl) SpecsOk.nil (by kernel_rfl) h
theorem t13 : GoodC C d13 c13 := fun I hI gs out h =>
  FnC.of_tree low mixed names (pl_ok I hI) (specs := [(0, s14)]) (fuel := 100000) (c := code57) (pe := []) Tryz.func57 (by kernel_rfl) (SpecsOk.cons rfl (fun gs out h => hI 14 gs out h) SpecsOk.nil) (by kernel_rfl) h
theorem t15 : GoodC C d15 c15 := fun I hI gs out h =>
  FnC.of_tree low mixed names (pl_ok I hI) (specs := []) (fuel := 100000) (c := code12) (pe := []) Tryz.func12 (by kernel_rfl) SpecsOk.nil (by kernel_rfl) h
theorem t23 : GoodC C d23 c23 := fun I hI gs out h =>
  LoopC.of_tree_at low mixed names (pl_ok I hI) (specs := []) (fuel := 100000) (sp := s23) (by kernel_rfl) rfl (ps := []) (b := b23) SpecsOk.nil (fun gs out h => hI 23 gs out h) (by kernel_rfl) h
theorem t26 : GoodC C d26 c26 := fun I hI gs out h =>
  FnC.of_tree low mixed names (pl_ok I hI) (specs := [(0, s38), (1, s40), (2, s41), (3, s77)]) (fuel := 100000) (c := code14) (pe := []) Tryz.func14 (by kernel_rfl) (SpecsOk.cons rfl (fun gs out h => hI 38 gs out h) (SpecsOk.cons rfl (fun gs out h => hI 40 gs out h) (SpecsOk.cons rfl (fun gs out h => hI 41 gs out h) (SpecsOk.cons rfl (fun gs out h => hI 77 gs out h) SpecsOk.nil)))) (by kernel_rfl) h
theorem t30 : GoodC C d30 c30 := fun I hI gs out h =>
  LoopC.of_tree_at low mixed names (pl_ok I hI) (specs := []) (fuel := 100000) (sp := s30) (by kernel_rfl) rfl (ps := []) (b := b30) SpecsOk.nil (fun gs out h => hI 30 gs out h) (by kernel_rfl) h
theorem t35 : GoodC C d35 c35 := fun I hI gs out h =>
  FnC.of_tree low mixed names (pl_ok I hI) (specs := []) (fuel := 100000) (c := code170) (pe := []) Tryz.func170 (by kernel_rfl) SpecsOk.nil (by kernel_rfl) h
theorem t37 : GoodC C d37 c37 := fun I hI gs out h =>
  FnC.of_tree low mixed names (pl_ok I hI) (specs := []) (fuel := 100000) (c := code172) (pe := []) Tryz.func172 (by kernel_rfl) SpecsOk.nil (by kernel_rfl) h
theorem t39 : GoodC C d39 c39 := fun _ _ _ _ h => names_okC h
theorem t44 : GoodC C d44 c44 := fun I hI gs out h =>
  FnS.of_tree low mixed names (pl_ok I hI) (specs := []) (fuel := 100000) (c := code65) (pe := []) (sp := s44) rfl Tryz.func65 (by kernel_rfl) SpecsOk.nil (by kernel_rfl) h
theorem t45 : GoodC C d45 c45 := fun I hI gs out h =>
  FnC.of_tree low mixed names (pl_ok I hI) (specs := []) (fuel := 100000) (c := code120) (pe := []) Tryz.func120 (by kernel_rfl) SpecsOk.nil (by kernel_rfl) h
theorem t50 : GoodC C d50 c50 := fun I hI gs out h =>
  FnS.of_tree low mixed names (pl_ok I hI) (specs := []) (fuel := 100000) (c := code65) (pe := []) (sp := s50) rfl Tryz.func65 (by kernel_rfl) SpecsOk.nil (by kernel_rfl) h
theorem t53 : GoodC C d53 c53 := fun I hI gs out h =>
  FnC.of_tree low mixed names (pl_ok I hI) (specs := []) (fuel := 100000) (c := code175) (pe := []) Tryz.func175 (by kernel_rfl) SpecsOk.nil (by kernel_rfl) h
theorem t57 : GoodC C d57 c57 := fun I hI gs out h =>
  FnC.of_tree low mixed names (pl_ok I hI) (specs := []) (fuel := 100000) (c := code79) (pe := []) Tryz.func79 (by kernel_rfl) SpecsOk.nil (by kernel_rfl) h
theorem t59 : GoodC C d59 c59 := fun I hI gs out h =>
  FnS.of_tree low mixed names (pl_ok I hI) (specs := []) (fuel := 100000) (c := code65) (pe := []) (sp := s59) rfl Tryz.func65 (by kernel_rfl) SpecsOk.nil (by kernel_rfl) h
theorem t63 : GoodC C d63 c63 := fun I hI gs out h =>
  FnS.of_tree low mixed names (pl_ok I hI) (specs := []) (fuel := 100000) (c := code65) (pe := []) (sp := s63) rfl Tryz.func65 (by kernel_rfl) SpecsOk.nil (by kernel_rfl) h
theorem t67 : GoodC C d67 c67 := fun I hI gs out h =>
  FnS.of_tree low mixed names (pl_ok I hI) (specs := []) (fuel := 100000) (c := code65) (pe := []) (sp := s67) rfl Tryz.func65 (by kernel_rfl) SpecsOk.nil (by kernel_rfl) h
theorem t71 : GoodC C d71 c71 := fun I hI gs out h =>
  FnS.of_tree low mixed names (pl_ok I hI) (specs := []) (fuel := 100000) (c := code65) (pe := []) (sp := s71) rfl Tryz.func65 (by kernel_rfl) SpecsOk.nil (by kernel_rfl) h
theorem t76 : GoodC C d76 c76 := fun I hI gs out h =>
  LoopC.of_tree_at low mixed names (pl_ok I hI) (specs := []) (fuel := 100000) (sp := s76) (by kernel_rfl) rfl (ps := []) (b := b76) SpecsOk.nil (fun gs out h => hI 76 gs out h) (by kernel_rfl) h
theorem t85 : GoodC C d85 c85 := fun I hI gs out h =>
  LoopC.of_tree_at low mixed names (pl_ok I hI) (specs := []) (fuel := 100000) (sp := s85) (by kernel_rfl) rfl (ps := []) (b := b85) SpecsOk.nil (fun gs out h => hI 85 gs out h) (by kernel_rfl) h
theorem t88 : GoodC C d88 c88 := fun I hI gs out h =>
  FnC.of_tree low mixed names (pl_ok I hI) (specs := [(0, s89)]) (fuel := 100000) (c := code21) (pe := []) Tryz.func21 (by kernel_rfl) (SpecsOk.cons rfl (fun gs out h => hI 89 gs out h) SpecsOk.nil) (by kernel_rfl) h
theorem t89 : GoodC C d89 c89 := fun I hI gs out h =>
  LoopC.of_tree_at low mixed names (pl_ok I hI) (specs := [(0, s90)]) (fuel := 100000) (sp := s89) (by kernel_rfl) rfl (ps := []) (b := b89) (SpecsOk.cons rfl (fun gs out h => hI 90 gs out h) SpecsOk.nil) (fun gs out h => hI 89 gs out h) (by kernel_rfl) h
theorem t92 : GoodC C d92 c92 := fun I hI gs out h =>
  FnC.of_tree low mixed names (pl_ok I hI) (specs := []) (fuel := 100000) (c := code71) (pe := []) Tryz.func71 (by kernel_rfl) SpecsOk.nil (by kernel_rfl) h
theorem t100 : GoodC C d100 c100 := fun I hI gs out h =>
  LoopC.of_tree_at low mixed names (pl_ok I hI) (specs := []) (fuel := 100000) (sp := s100) (by kernel_rfl) rfl (ps := []) (b := b100) SpecsOk.nil (fun gs out h => hI 100 gs out h) (by kernel_rfl) h
theorem t102 : GoodC C d102 c102 := fun I hI gs out h =>
  FnC.of_tree low mixed names (pl_ok I hI) (specs := [(0, s103)]) (fuel := 100000) (c := code72) (pe := []) Tryz.func72 (by kernel_rfl) (SpecsOk.cons rfl (fun gs out h => hI 103 gs out h) SpecsOk.nil) (by kernel_rfl) h
theorem t106 : GoodC C d106 c106 := fun I hI gs out h =>
  FnC.of_tree low mixed names (pl_ok I hI) (specs := [(0, s107)]) (fuel := 100000) (c := code123) (pe := []) Tryz.func123 (by kernel_rfl) (SpecsOk.cons rfl (fun gs out h => hI 107 gs out h) SpecsOk.nil) (by kernel_rfl) h
theorem t111 : GoodC C d111 c111 := fun I hI gs out h =>
  FnC.of_tree low mixed names (pl_ok I hI) (specs := []) (fuel := 100000) (c := code179) (pe := []) Tryz.func179 (by kernel_rfl) SpecsOk.nil (by kernel_rfl) h
theorem t122 : GoodC C d122 c122 := fun I hI gs out h =>
  LoopC.of_tree_at low mixed names (pl_ok I hI) (specs := []) (fuel := 100000) (sp := s122) (by kernel_rfl) rfl (ps := []) (b := b122) SpecsOk.nil (fun gs out h => hI 122 gs out h) (by kernel_rfl) h
theorem t123 : GoodC C d123 c123 := fun I hI gs out h =>
  LoopC.of_tree_at low mixed names (pl_ok I hI) (specs := [(0, s124)]) (fuel := 100000) (sp := s123) (by kernel_rfl) rfl (ps := []) (b := b123) (SpecsOk.cons rfl (fun gs out h => hI 124 gs out h) SpecsOk.nil) (fun gs out h => hI 123 gs out h) (by kernel_rfl) h
theorem t131 : GoodC C d131 c131 := fun I hI gs out h =>
  FnC.of_tree low mixed names (pl_ok I hI) (specs := [(0, s132)]) (fuel := 100000) (c := code192) (pe := []) Tryz.func192 (by kernel_rfl) (SpecsOk.cons rfl (fun gs out h => hI 132 gs out h) SpecsOk.nil) (by kernel_rfl) h
theorem t135 : GoodC C d135 c135 := fun I hI gs out h =>
  LoopC.of_tree_at low mixed names (pl_ok I hI) (specs := []) (fuel := 100000) (sp := s135) (by kernel_rfl) rfl (ps := []) (b := b135) SpecsOk.nil (fun gs out h => hI 135 gs out h) (by kernel_rfl) h
end M
end Go.Proofs.YtckgelanagoenaaGreatDoor
