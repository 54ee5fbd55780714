/- Definitions keep their contracts: the ways of the bodies, run by the kernel. -/
import Derived.Test.YtamcdgfjjeldeaaGreatDoorKCP
namespace Go.Proofs.YtamcdgfjjeldeaaGreatDoor
open Go Go.Abs
set_option maxRecDepth 100000
set_option linter.unusedVariables false
set_option linter.unusedSimpArgs false
namespace C
theorem t3 : GoodC C d3 c3 := fun I hI gs out h =>
  LoopC.of_tree_at low mixed names (pl_ok I hI) (specs := []) (fuel := 100000) (sp := s3) (by kernel_rfl) rfl (ps := []) (b := b3) SpecsOk.nil (fun gs out h => hI 3 gs out h) (by kernel_rfl) h
theorem t13 : GoodC C d13 c13 := fun I hI gs out h =>
  FnC.of_tree low mixed names (pl_ok I hI) (specs := [(0, s14), (1, s22)]) (fuel := 100000) (c := code17) (pe := []) Tryz.func17 (by kernel_rfl) (SpecsOk.cons rfl (fun gs out h => hI 14 gs out h) (SpecsOk.cons rfl (fun gs out h => hI 22 gs out h) SpecsOk.nil)) (by kernel_rfl) h
theorem t18 : GoodC C d18 c18 := fun I hI gs out h =>
  FnC.of_tree low mixed names (pl_ok I hI) (specs := []) (fuel := 100000) (c := code139) (pe := []) Tryz.func139 (by kernel_rfl) SpecsOk.nil (by kernel_rfl) h
theorem t20 : GoodC C d20 c20 := fun I hI gs out h =>
  FnC.of_tree low mixed names (pl_ok I hI) (specs := []) (fuel := 100000) (c := code197) (pe := []) Tryz.func197 (by kernel_rfl) SpecsOk.nil (by kernel_rfl) h
theorem t28 : GoodC C d28 c28 := fun I hI gs out h =>
  FnC.of_tree low mixed names (pl_ok I hI) (specs := [(0, s29)]) (fuel := 100000) (c := code86) (pe := []) Tryz.func86 (by kernel_rfl) (SpecsOk.cons rfl (fun gs out h => hI 29 gs out h) SpecsOk.nil) (by kernel_rfl) h
theorem t32 : GoodC C d32 c32 := fun I hI gs out h =>
  LoopC.of_tree_at low mixed names (pl_ok I hI) (specs := []) (fuel := 100000) (sp := s32) (by kernel_rfl) rfl (ps := []) (b := b32) SpecsOk.nil (fun gs out h => hI 32 gs out h) (by kernel_rfl) h
theorem t34 : GoodC C d34 c34 := fun I hI gs out h =>
  LoopC.of_tree_at low mixed names (pl_ok I hI) (specs := []) (fuel := 100000) (sp := s34) (by kernel_rfl) rfl (ps := []) (b := b34) SpecsOk.nil (fun gs out h => hI 34 gs out h) (by kernel_rfl) h
theorem t35 : GoodC C d35 c35 := fun I hI gs out h =>
  FnC.of_tree low mixed names (pl_ok I hI) (specs := [(0, s36)]) (fuel := 100000) (c := code20) (pe := []) Tryz.func20 (by kernel_rfl) (SpecsOk.cons rfl (fun gs out h => hI 36 gs out h) SpecsOk.nil) (by kernel_rfl) h
theorem t36 : GoodC C d36 c36 := fun I hI gs out h =>
  LoopC.of_tree_at low mixed names (pl_ok I hI) (specs := []) (fuel := 100000) (sp := s36) (by kernel_rfl) rfl (ps := []) (b := b36) SpecsOk.nil (fun gs out h => hI 36 gs out h) (by kernel_rfl) h
theorem t44 : GoodC C d44 c44 := fun I hI gs out h =>
  FnC.of_tree low mixed names (pl_ok I hI) (specs := []) (fuel := 100000) (c := code110) (pe := []) Tryz.func110 (by kernel_rfl) SpecsOk.nil (by kernel_rfl) h
theorem t46 : GoodC C d46 c46 := fun _ _ _ _ h => add64_ok h
theorem t47 : GoodC C d47 c47 := fun I hI gs out h =>
  FnC.of_tree low mixed names (pl_ok I hI) (specs := []) (fuel := 100000) (c := code11) (pe := []) Tryz.func11 (by kernel_rfl) SpecsOk.nil (by kernel_rfl) h
end C
end Go.Proofs.YtamcdgfjjeldeaaGreatDoor
