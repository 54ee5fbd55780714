/- Definitions keep their contracts: the ways of the bodies, run by the kernel. -/
import Derived.Test.YtamcdgfjjeldeaaGreatDoorKEP
namespace Go.Proofs.YtamcdgfjjeldeaaGreatDoor
open Go Go.Abs
set_option maxRecDepth 100000
set_option linter.unusedVariables false
set_option linter.unusedSimpArgs false
namespace E
theorem t1 : GoodC C d1 c1 := fun I hI gs out h =>
  FnC.of_tree low mixed names (pl_ok I hI) (specs := [(0, s2)]) (fuel := 100000) (c := code32) (pe := []) Tryz.func32 (by kernel_rfl) (SpecsOk.cons rfl (fun gs out h => hI 2 gs out h) SpecsOk.nil) (by kernel_rfl) h
theorem t2 : GoodC C d2 c2 := fun I hI gs out h =>
  LoopC.of_tree_at low mixed names (pl_ok I hI) (specs := []) (fuel := 100000) (sp := s2) (by kernel_rfl) rfl (ps := []) (b := b2) SpecsOk.nil (fun gs out h => hI 2 gs out h) (by kernel_rfl) h
theorem t10 : GoodC C d10 c10 := fun I hI gs out h =>
  LoopC.of_tree_at low mixed names (pl_ok I hI) (specs := []) (fuel := 100000) (sp := s10) (by kernel_rfl) rfl (ps := []) (b := b10) SpecsOk.nil (fun gs out h => hI 10 gs out h) (by kernel_rfl) h
theorem t11 : GoodC C d11 c11 := fun I hI gs out h =>
  LoopC.of_tree_at low mixed names (pl_ok I hI) (specs := []) (fuel := 100000) (sp := s11) (by kernel_rfl) rfl (ps := []) (b := b11) SpecsOk.nil (fun gs out h => hI 11 gs out h) (by kernel_rfl) h
theorem t14 : GoodC C d14 c14 := fun I hI gs out h =>
  LoopC.of_tree_at low mixed names (pl_ok I hI) (specs := []) (fuel := 100000) (sp := s14) (by kernel_rfl) rfl (ps := []) (b := b14) SpecsOk.nil (fun gs out h => hI 14 gs out h) (by kernel_rfl) h
theorem t15 : GoodC C d15 c15 := fun I hI gs out h =>
  FnC.of_tree low mixed names (pl_ok I hI) (specs := []) (fuel := 100000) (c := code45) (pe := []) Tryz.func45 (by kernel_rfl) SpecsOk.nil (by kernel_rfl) h
theorem t20 : GoodC C d20 c20 := fun I hI gs out h =>
  FnC.of_tree low mixed names (pl_ok I hI) (specs := []) (fuel := 100000) (c := code90) (pe := []) Tryz.func90 (by kernel_rfl) SpecsOk.nil (by kernel_rfl) h
theorem t21 : GoodC C d21 c21 := fun I hI gs out h =>
  FnC.of_tree low mixed names (pl_ok I hI) (specs := []) (fuel := 100000) (c := code125) (pe := []) Tryz.func125 (by kernel_rfl) SpecsOk.nil (by kernel_rfl) h
theorem t22 : GoodC C d22 c22 := fun I hI gs out h =>
  FnC.of_tree low mixed names (pl_ok I hI) (specs := [(0, s23)]) (fuel := 100000) (c := code163) (pe := []) Tryz.func163 (by kernel_rfl) (SpecsOk.cons rfl (fun gs out h => hI 23 gs out h) SpecsOk.nil) (by kernel_rfl) h
theorem t28 : GoodC C d28 c28 := fun I hI gs out h =>
  FnC.of_tree low mixed names (pl_ok I hI) (specs := [(0, s29)]) (fuel := 100000) (c := code128) (pe := []) Tryz.func128 (by kernel_rfl) (SpecsOk.cons rfl (fun gs out h => hI 29 gs out h) SpecsOk.nil) (by kernel_rfl) h
theorem t32 : GoodC C d32 c32 := fun I hI gs out h =>
  FnC.of_tree low mixed names (pl_ok I hI) (specs := []) (fuel := 100000) (c := code39) (pe := []) Tryz.func39 (by kernel_rfl) SpecsOk.nil (by kernel_rfl) h
theorem t33 : GoodC C d33 c33 := fun I hI gs out h =>
  FnC.of_tree low mixed names (pl_ok I hI) (specs := [(0, s34), (1, s35)]) (fuel := 100000) (c := code98) (pe := []) Tryz.func98 (by kernel_rfl) (SpecsOk.cons rfl (fun gs out h => hI 34 gs out h) (SpecsOk.cons rfl (fun gs out h => hI 35 gs out h) SpecsOk.nil)) (by kernel_rfl) h
theorem t36 : GoodC C d36 c36 := fun I hI gs out h =>
  FnS.of_tree low mixed names (pl_ok I hI) (specs := []) (fuel := 100000) (c := code38) (pe := []) (sp := s36) rfl Tryz.func38 (by kernel_rfl) SpecsOk.nil (by kernel_rfl) h
theorem t50 : GoodC C d50 c50 := fun I hI gs out h =>
  FnC.of_tree low mixed names (pl_ok I hI) (specs := [(0, s51)]) (fuel := 100000) (c := code21) (pe := []) Tryz.func21 (by kernel_rfl) (SpecsOk.cons rfl (fun gs out h => hI 51 gs out h) SpecsOk.nil) (by kernel_rfl) h
theorem t57 : GoodC C d57 c57 := fun I hI gs out h =>
  FnC.of_tree low mixed names (pl_ok I hI) (specs := []) (fuel := 100000) (c := code197) (pe := []) Tryz.func197 (by kernel_rfl) SpecsOk.nil (by kernel_rfl) h
theorem t59 : GoodC C d59 c59 := fun I hI gs out h =>
  LoopC.of_tree_at low mixed names (pl_ok I hI) (specs := []) (fuel := 100000) (sp := s59) (by kernel_rfl) rfl (ps := []) (b := b59) SpecsOk.nil (fun gs out h => hI 59 gs out h) (by kernel_rfl) h
theorem t61 : GoodC C d61 c61 := fun I hI gs out h =>
  LoopC.of_tree_at low mixed names (pl_ok I hI) (specs := []) (fuel := 100000) (sp := s61) (by kernel_rfl) rfl (ps := []) (b := b61) SpecsOk.nil (fun gs out h => hI 61 gs out h) (by kernel_rfl) h
theorem t67 : GoodC C d67 c67 := fun I hI gs out h =>
  FnC.of_tree low mixed names (pl_ok I hI) (specs := []) (fuel := 100000) (c := code89) (pe := []) Tryz.func89 (by kernel_rfl) SpecsOk.nil (by kernel_rfl) h
theorem t75 : GoodC C d75 c75 := fun I hI gs out h =>
  LoopC.of_tree_at low mixed names (pl_ok I hI) (specs := []) (fuel := 100000) (sp := s75) (by kernel_rfl) rfl (ps := []) (b := b75) SpecsOk.nil (fun gs out h => hI 75 gs out h) (by kernel_rfl) h
theorem t79 : GoodC C d79 c79 := fun I hI gs out h =>
  FnC.of_tree low mixed names (pl_ok I hI) (specs := []) (fuel := 100000) (c := code126) (pe := []) Tryz.func126 (by kernel_rfl) SpecsOk.nil (by kernel_rfl) h
theorem t82 : GoodC C d82 c82 := fun I hI gs out h =>
  FnC.of_tree low mixed names (pl_ok I hI) (specs := []) (fuel := 100000) (c := code52) (pe := []) Tryz.func52 (by kernel_rfl) SpecsOk.nil (by kernel_rfl) h
theorem t83 : GoodC C d83 c83 := fun I hI gs out h =>
  FnS.of_tree low mixed names (pl_ok I hI) (specs := [(0, s84)]) (fuel := 100000) (c := code54) (pe := []) (sp := s83) rfl Tryz.func54 (by kernel_rfl) (SpecsOk.cons rfl (fun gs out h => hI 84 gs out h) SpecsOk.nil) (by kernel_rfl) h
theorem t85 : GoodC C d85 c85 := fun I hI gs out h =>
  FnS.of_tree low mixed names (pl_ok I hI) (specs := []) (fuel := 100000) (c := code105) (pe := []) (sp := s85) rfl Tryz.func105 (by kernel_rfl) SpecsOk.nil (by kernel_rfl) h
theorem t86 : GoodC C d86 c86 := fun I hI gs out h =>
  FnC.of_tree low mixed names (pl_ok I hI) (specs := []) (fuel := 100000) (c := code131) (pe := []) Tryz.func131 (by kernel_rfl) SpecsOk.nil (by kernel_rfl) h
theorem t87 : GoodC C d87 c87 := fun I hI gs out h =>
  FnS.of_tree low mixed names (pl_ok I hI) (specs := [(0, s88)]) (fuel := 100000) (c := code165) (pe := []) (sp := s87) rfl Tryz.func165 (by kernel_rfl) (SpecsOk.cons rfl (fun gs out h => hI 88 gs out h) SpecsOk.nil) (by kernel_rfl) h
theorem t95 : GoodC C d95 c95 := fun I hI gs out h =>
  FnC.of_tree low mixed names (pl_ok I hI) (specs := [(0, s96)]) (fuel := 100000) (c := code132) (pe := []) Tryz.func132 (by kernel_rfl) (SpecsOk.cons rfl (fun gs out h => hI 96 gs out h) SpecsOk.nil) (by kernel_rfl) h
theorem t104 : GoodC C d104 c104 := fun I hI gs out h =>
  FnC.of_tree low mixed names (pl_ok I hI) (specs := []) (fuel := 100000) (c := code19) (pe := []) Tryz.func19 (by kernel_rfl) SpecsOk.nil (by kernel_rfl) h
theorem t106 : GoodC C d106 c106 := fun I hI gs out h =>
  LoopC.of_tree_at low mixed names (pl_ok I hI) (specs := []) (fuel := 100000) (sp := s106) (by kernel_rfl) rfl (ps := []) (b := b106) SpecsOk.nil (fun gs out h => hI 106 gs out h) (by kernel_rfl) h
end E
end Go.Proofs.YtamcdgfjjeldeaaGreatDoor
