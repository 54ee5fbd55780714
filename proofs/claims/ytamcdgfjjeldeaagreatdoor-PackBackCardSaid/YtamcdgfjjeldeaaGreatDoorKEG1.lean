/- Definitions keep their contracts: the ways of the bodies, run by the kernel. -/
import Derived.Test.YtamcdgfjjeldeaaGreatDoorKEP
namespace Go.Proofs.YtamcdgfjjeldeaaGreatDoor
open Go Go.Abs
set_option maxRecDepth 100000
set_option linter.unusedVariables false
set_option linter.unusedSimpArgs false
namespace E
theorem t3 : GoodC C d3 c3 := fun I hI gs out h =>
  FnC.of_tree low mixed names (pl_ok I hI) (specs := [(0, s12)]) (fuel := 100000) (c := code33) (pe := [0]) Tryz.func33 (by kernel_rfl) (SpecsOk.cons rfl (fun gs out h => hI 12 gs out h) SpecsOk.nil) (by kernel_rfl) h
theorem t8 : GoodC C d8 c8 := fun I hI gs out h =>
  FnC.of_tree low mixed names (pl_ok I hI) (specs := [(0, s11)]) (fuel := 100000) (c := code99) (pe := []) Tryz.func99 (by kernel_rfl) (SpecsOk.cons rfl (fun gs out h => hI 11 gs out h) SpecsOk.nil) (by kernel_rfl) h
theorem t13 : GoodC C d13 c13 := fun I hI gs out h =>
  FnC.of_tree low mixed names (pl_ok I hI) (specs := [(0, s14)]) (fuel := 100000) (c := code34) (pe := []) Tryz.func34 (by kernel_rfl) (SpecsOk.cons rfl (fun gs out h => hI 14 gs out h) SpecsOk.nil) (by kernel_rfl) h
theorem t17 : GoodC C d17 c17 := fun I hI gs out h =>
  LoopC.of_tree_at low mixed names (pl_ok I hI) (specs := []) (fuel := 100000) (sp := s17) (by kernel_rfl) rfl (ps := []) (b := b17) SpecsOk.nil (fun gs out h => hI 17 gs out h) (by kernel_rfl) h
theorem t25 : GoodC C d25 c25 := fun I hI gs out h =>
  LoopC.of_tree_at low mixed names (pl_ok I hI) (specs := []) (fuel := 100000) (sp := s25) (by kernel_rfl) rfl (ps := []) (b := b25) SpecsOk.nil (fun gs out h => hI 25 gs out h) (by kernel_rfl) h
theorem t26 : GoodC C d26 c26 := fun I hI gs out h =>
  FnS.of_tree low mixed names (pl_ok I hI) (specs := []) (fuel := 100000) (c := code38) (pe := []) (sp := s26) rfl Tryz.func38 (by kernel_rfl) SpecsOk.nil (by kernel_rfl) h
theorem t31 : GoodC C d31 c31 := fun I hI gs out h =>
  LoopC.of_tree_at low mixed names (pl_ok I hI) (specs := []) (fuel := 100000) (sp := s31) (by kernel_rfl) rfl (ps := []) (b := b31) SpecsOk.nil (fun gs out h => hI 31 gs out h) (by kernel_rfl) h
theorem t37 : GoodC C d37 c37 := fun I hI gs out h =>
  FnS.of_tree low mixed names (pl_ok I hI) (specs := []) (fuel := 100000) (c := code96) (pe := []) (sp := s37) rfl Tryz.func96 (by kernel_rfl) SpecsOk.nil (by kernel_rfl) h
theorem t38 : GoodC C d38 c38 := fun I hI gs out h =>
  FnC.of_tree low mixed names (pl_ok I hI) (specs := [(0, s39)]) (fuel := 100000) (c := code40) (pe := []) Tryz.func40 (by kernel_rfl) (SpecsOk.cons rfl (fun gs out h => hI 39 gs out h) SpecsOk.nil) (by kernel_rfl) h
theorem t39 : GoodC C d39 c39 := fun I hI gs out h =>
  LoopC.of_tree_at low mixed names (pl_ok I hI) (specs := []) (fuel := 100000) (sp := s39) (by kernel_rfl) rfl (ps := []) (b := b39) SpecsOk.nil (fun gs out h => hI 39 gs out h) (by kernel_rfl) h
theorem t40 : GoodC C d40 c40 := fun I hI gs out h =>
  LoopC.of_tree_at low mixed names (pl_ok I hI) (specs := []) (fuel := 100000) (sp := s40) (by kernel_rfl) rfl (ps := []) (b := b40) SpecsOk.nil (fun gs out h => hI 40 gs out h) (by kernel_rfl) h
theorem t41 : GoodC C d41 c41 := fun I hI gs out h =>
  FnC.of_tree low mixed names (pl_ok I hI) (specs := []) (fuel := 100000) (c := code8) (pe := []) Tryz.func8 (by kernel_rfl) SpecsOk.nil (by kernel_rfl) h
theorem t42 : GoodC C d42 c42 := fun I hI gs out h =>
  FnC.of_tree low mixed names (pl_ok I hI) (specs := [(0, s43)]) (fuel := 100000) (c := code16) (pe := []) Tryz.func16 (by kernel_rfl) (SpecsOk.cons rfl (fun gs out h => hI 43 gs out h) SpecsOk.nil) (by kernel_rfl) h
theorem t46 : GoodC C d46 c46 := fun I hI gs out h =>
  FnC.of_tree low mixed names (pl_ok I hI) (specs := [(0, s47)]) (fuel := 100000) (c := code81) (pe := []) Tryz.func81 (by kernel_rfl) (SpecsOk.cons rfl (fun gs out h => hI 47 gs out h) SpecsOk.nil) (by kernel_rfl) h
theorem t51 : GoodC C d51 c51 := fun I hI gs out h =>
  LoopC.of_tree_at low mixed names (pl_ok I hI) (specs := []) (fuel := 100000) (sp := s51) (by kernel_rfl) rfl (ps := []) (b := b51) SpecsOk.nil (fun gs out h => hI 51 gs out h) (by kernel_rfl) h
theorem t68 : GoodC C d68 c68 := fun I hI gs out h =>
  FnC.of_tree low mixed names (pl_ok I hI) (specs := [(0, s69)]) (fuel := 100000) (c := code124) (pe := []) Tryz.func124 (by kernel_rfl) (SpecsOk.cons rfl (fun gs out h => hI 69 gs out h) SpecsOk.nil) (by kernel_rfl) h
theorem t69 : GoodC C d69 c69 := fun I hI gs out h =>
  LoopC.of_tree_at low mixed names (pl_ok I hI) (specs := []) (fuel := 100000) (sp := s69) (by kernel_rfl) rfl (ps := []) (b := b69) SpecsOk.nil (fun gs out h => hI 69 gs out h) (by kernel_rfl) h
theorem t71 : GoodC C d71 c71 := fun I hI gs out h =>
  FnC.of_tree low mixed names (pl_ok I hI) (specs := []) (fuel := 100000) (c := code183) (pe := []) Tryz.func183 (by kernel_rfl) SpecsOk.nil (by kernel_rfl) h
theorem t73 : GoodC C d73 c73 := fun I hI gs out h =>
  LoopC.of_tree_at low mixed names (pl_ok I hI) (specs := []) (fuel := 100000) (sp := s73) (by kernel_rfl) rfl (ps := []) (b := b73) SpecsOk.nil (fun gs out h => hI 73 gs out h) (by kernel_rfl) h
theorem t77 : GoodC C d77 c77 := fun I hI gs out h =>
  FnC.of_tree low mixed names (pl_ok I hI) (specs := [(0, s78)]) (fuel := 100000) (c := code91) (pe := []) Tryz.func91 (by kernel_rfl) (SpecsOk.cons rfl (fun gs out h => hI 78 gs out h) SpecsOk.nil) (by kernel_rfl) h
theorem t78 : GoodC C d78 c78 := fun I hI gs out h =>
  LoopC.of_tree_at low mixed names (pl_ok I hI) (specs := []) (fuel := 100000) (sp := s78) (by kernel_rfl) rfl (ps := []) (b := b78) SpecsOk.nil (fun gs out h => hI 78 gs out h) (by kernel_rfl) h
theorem t80 : GoodC C d80 c80 := fun I hI gs out h =>
  FnC.of_tree low mixed names (pl_ok I hI) (specs := [(0, s81)]) (fuel := 100000) (c := code104) (pe := []) Tryz.func104 (by kernel_rfl) (SpecsOk.cons rfl (fun gs out h => hI 81 gs out h) SpecsOk.nil) (by kernel_rfl) h
theorem t89 : GoodC C d89 c89 := fun I hI gs out h =>
  FnS.of_tree low mixed names (pl_ok I hI) (specs := []) (fuel := 100000) (c := code184) (pe := []) (sp := s89) rfl Tryz.func184 (by kernel_rfl) SpecsOk.nil (by kernel_rfl) h
theorem t96 : GoodC C d96 c96 := fun I hI gs out h =>
  LoopC.of_tree_at low mixed names (pl_ok I hI) (specs := []) (fuel := 100000) (sp := s96) (by kernel_rfl) rfl (ps := []) (b := b96) SpecsOk.nil (fun gs out h => hI 96 gs out h) (by kernel_rfl) h
theorem t99 : GoodC C d99 c99 := fun I hI gs out h =>
  FnS.of_tree low mixed names (pl_ok I hI) (specs := []) (fuel := 100000) (c := code54) (pe := []) (sp := s99) rfl Tryz.func54 (by kernel_rfl) SpecsOk.nil (by kernel_rfl) h
theorem t100 : GoodC C d100 c100 := fun I hI gs out h =>
  FnC.of_tree low mixed names (pl_ok I hI) (specs := [(0, s101)]) (fuel := 100000) (c := code25) (pe := []) Tryz.func25 (by kernel_rfl) (SpecsOk.cons rfl (fun gs out h => hI 101 gs out h) SpecsOk.nil) (by kernel_rfl) h
theorem t101 : GoodC C d101 c101 := fun I hI gs out h =>
  LoopC.of_tree_at low mixed names (pl_ok I hI) (specs := [(0, s102)]) (fuel := 100000) (sp := s101) (by kernel_rfl) rfl (ps := []) (b := b101) (SpecsOk.cons rfl (fun gs out h => hI 102 gs out h) SpecsOk.nil) (fun gs out h => hI 101 gs out h) (by kernel_rfl) h
theorem t107 : GoodC C d107 c107 := fun I hI gs out h =>
  FnC.of_tree low mixed names (pl_ok I hI) (specs := []) (fuel := 100000) (c := code87) (pe := []) Tryz.func87 (by kernel_rfl) SpecsOk.nil (by kernel_rfl) h
end E
end Go.Proofs.YtamcdgfjjeldeaaGreatDoor
