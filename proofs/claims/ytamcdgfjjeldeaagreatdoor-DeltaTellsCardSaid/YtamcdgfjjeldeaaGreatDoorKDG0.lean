/- Definitions keep their contracts: the ways of the bodies, run by the kernel. -/
import Derived.Test.YtamcdgfjjeldeaaGreatDoorKDP
namespace Go.Proofs.YtamcdgfjjeldeaaGreatDoor
open Go Go.Abs
set_option maxRecDepth 100000
set_option linter.unusedVariables false
set_option linter.unusedSimpArgs false
namespace D
theorem t8 : GoodC C d8 c8 := fun I hI gs out h =>
  FnC.of_tree low mixed names (pl_ok I hI) (specs := [(0, s9)]) (fuel := 100000) (c := code129) (pe := []) Tryz.func129 (by kernel_rfl) (SpecsOk.cons rfl (fun gs out h => hI 9 gs out h) SpecsOk.nil) (by kernel_rfl) h
theorem t10 : GoodC C d10 c10 := fun I hI gs out h =>
  LoopC.of_tree_at low mixed names (pl_ok I hI) (specs := []) (fuel := 100000) (sp := s10) (by kernel_rfl) rfl (ps := []) (b := b10) SpecsOk.nil (fun gs out h => hI 10 gs out h) (by kernel_rfl) h
theorem t18 : GoodC C d18 c18 := fun I hI gs out h =>
  FnC.of_tree low mixed names (pl_ok I hI) (specs := []) (fuel := 100000) (c := code139) (pe := []) Tryz.func139 (by kernel_rfl) SpecsOk.nil (by kernel_rfl) h
theorem t22 : GoodC C d22 c22 := fun I hI gs out h =>
  LoopC.of_tree_at low mixed names (pl_ok I hI) (specs := []) (fuel := 100000) (sp := s22) (by kernel_rfl) rfl (ps := []) (b := b22) SpecsOk.nil (fun gs out h => hI 22 gs out h) (by kernel_rfl) h
theorem t28 : GoodC C d28 c28 := fun I hI gs out h =>
  FnC.of_tree low mixed names (pl_ok I hI) (specs := [(0, s29)]) (fuel := 100000) (c := code86) (pe := []) Tryz.func86 (by kernel_rfl) (SpecsOk.cons rfl (fun gs out h => hI 29 gs out h) SpecsOk.nil) (by kernel_rfl) h
theorem t29 : GoodC C d29 c29 := fun I hI gs out h =>
  LoopC.of_tree_at low mixed names (pl_ok I hI) (specs := []) (fuel := 100000) (sp := s29) (by kernel_rfl) rfl (ps := []) (b := b29) SpecsOk.nil (fun gs out h => hI 29 gs out h) (by kernel_rfl) h
theorem t31 : GoodC C d31 c31 := fun I hI gs out h =>
  FnC.of_tree low mixed names (pl_ok I hI) (specs := [(0, s32)]) (fuel := 100000) (c := code88) (pe := []) Tryz.func88 (by kernel_rfl) (SpecsOk.cons rfl (fun gs out h => hI 32 gs out h) SpecsOk.nil) (by kernel_rfl) h
theorem t41 : GoodC C d41 c41 := fun I hI gs out h =>
  FnC.of_tree low mixed names (pl_ok I hI) (specs := []) (fuel := 100000) (c := code61) (pe := []) Tryz.func61 (by kernel_rfl) SpecsOk.nil (by kernel_rfl) h
theorem t46 : GoodC C d46 c46 := fun _ _ _ _ h => add64_ok h
theorem t49 : GoodC C d49 c49 := fun I hI gs out h =>
  FnC.of_tree low mixed names (pl_ok I hI) (specs := []) (fuel := 100000) (c := code62) (pe := []) Tryz.func62 (by kernel_rfl) SpecsOk.nil (by kernel_rfl) h
theorem t50 : GoodC C d50 c50 := fun I hI gs out h =>
  LoopC.of_tree_at low mixed names (pl_ok I hI) (specs := []) (fuel := 100000) (sp := s50) (by kernel_rfl) rfl (ps := []) (b := b50) SpecsOk.nil (fun gs out h => hI 50 gs out h) (by kernel_rfl) h
theorem t61 : GoodC C d61 c61 := fun I hI gs out h =>
  FnC.of_tree low mixed names (pl_ok I hI) (specs := []) (fuel := 100000) (c := code89) (pe := []) Tryz.func89 (by kernel_rfl) SpecsOk.nil (by kernel_rfl) h
theorem t67 : GoodC C d67 c67 := fun I hI gs out h =>
  LoopC.of_tree_at low mixed names (pl_ok I hI) (specs := []) (fuel := 100000) (sp := s67) (by kernel_rfl) rfl (ps := []) (b := b67) SpecsOk.nil (fun gs out h => hI 67 gs out h) (by kernel_rfl) h
theorem t68 : GoodC C d68 c68 := fun I hI gs out h =>
  FnC.of_tree low mixed names (pl_ok I hI) (specs := [(0, s69)]) (fuel := 100000) (c := code214) (pe := []) Tryz.func214 (by kernel_rfl) (SpecsOk.cons rfl (fun gs out h => hI 69 gs out h) SpecsOk.nil) (by kernel_rfl) h
theorem t69 : GoodC C d69 c69 := fun I hI gs out h =>
  LoopC.of_tree_at low mixed names (pl_ok I hI) (specs := []) (fuel := 100000) (sp := s69) (by kernel_rfl) rfl (ps := []) (b := b69) SpecsOk.nil (fun gs out h => hI 69 gs out h) (by kernel_rfl) h
theorem t72 : GoodC C d72 c72 := fun I hI gs out h =>
  FnC.of_tree low mixed names (pl_ok I hI) (specs := [(0, s73)]) (fuel := 100000) (c := code163) (pe := []) Tryz.func163 (by kernel_rfl) (SpecsOk.cons rfl (fun gs out h => hI 73 gs out h) SpecsOk.nil) (by kernel_rfl) h
theorem t75 : GoodC C d75 c75 := fun I hI gs out h =>
  FnC.of_tree low mixed names (pl_ok I hI) (specs := [(0, s76)]) (fuel := 100000) (c := code100) (pe := []) Tryz.func100 (by kernel_rfl) (SpecsOk.cons rfl (fun gs out h => hI 76 gs out h) SpecsOk.nil) (by kernel_rfl) h
theorem t76 : GoodC C d76 c76 := fun I hI gs out h =>
  LoopC.of_tree_at low mixed names (pl_ok I hI) (specs := []) (fuel := 100000) (sp := s76) (by kernel_rfl) rfl (ps := []) (b := b76) SpecsOk.nil (fun gs out h => hI 76 gs out h) (by kernel_rfl) h
theorem t85 : GoodC C d85 c85 := fun I hI gs out h =>
  FnC.of_tree low mixed names (pl_ok I hI) (specs := []) (fuel := 100000) (c := code66) (pe := []) Tryz.func66 (by kernel_rfl) SpecsOk.nil (by kernel_rfl) h
theorem t86 : GoodC C d86 c86 := fun I hI gs out h =>
  FnC.of_tree low mixed names (pl_ok I hI) (specs := []) (fuel := 100000) (c := code65) (pe := []) Tryz.func65 (by kernel_rfl) SpecsOk.nil (by kernel_rfl) h
theorem t88 : GoodC C d88 c88 := fun I hI gs out h =>
  FnC.of_tree low mixed names (pl_ok I hI) (specs := [(0, s89), (1, s90)]) (fuel := 100000) (c := code113) (pe := []) Tryz.func113 (by kernel_rfl) (SpecsOk.cons rfl (fun gs out h => hI 89 gs out h) (SpecsOk.cons rfl (fun gs out h => hI 90 gs out h) SpecsOk.nil)) (by kernel_rfl) h
theorem t90 : GoodC C d90 c90 := fun I hI gs out h =>
  LoopC.of_tree_at low mixed names (pl_ok I hI) (specs := []) (fuel := 100000) (sp := s90) (by kernel_rfl) rfl (ps := []) (b := b90) SpecsOk.nil (fun gs out h => hI 90 gs out h) (by kernel_rfl) h
theorem t91 : GoodC C d91 c91 := fun I hI gs out h =>
  FnC.of_tree low mixed names (pl_ok I hI) (specs := [(0, s92), (1, s93)]) (fuel := 100000) (c := code23) (pe := []) Tryz.func23 (by kernel_rfl) (SpecsOk.cons rfl (fun gs out h => hI 92 gs out h) (SpecsOk.cons rfl (fun gs out h => hI 93 gs out h) SpecsOk.nil)) (by kernel_rfl) h
theorem t96 : GoodC C d96 c96 := fun I hI gs out h =>
  FnC.of_tree low mixed names (pl_ok I hI) (specs := []) (fuel := 100000) (c := code68) (pe := []) Tryz.func68 (by kernel_rfl) SpecsOk.nil (by kernel_rfl) h
theorem t98 : GoodC C d98 c98 := fun I hI gs out h =>
  LoopC.of_tree_at low mixed names (pl_ok I hI) (specs := [(0, s99)]) (fuel := 100000) (sp := s98) (by kernel_rfl) rfl (ps := []) (b := b98) (SpecsOk.cons rfl (fun gs out h => hI 99 gs out h) SpecsOk.nil) (fun gs out h => hI 98 gs out h) (by kernel_rfl) h
end D
end Go.Proofs.YtamcdgfjjeldeaaGreatDoor
