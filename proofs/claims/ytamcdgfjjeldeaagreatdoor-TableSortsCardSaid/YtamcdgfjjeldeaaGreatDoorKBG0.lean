/- Definitions keep their contracts: the ways of the bodies, run by the kernel. -/
import Derived.Test.YtamcdgfjjeldeaaGreatDoorKBP
namespace Go.Proofs.YtamcdgfjjeldeaaGreatDoor
open Go Go.Abs
set_option maxRecDepth 100000
set_option linter.unusedVariables false
set_option linter.unusedSimpArgs false
namespace B
theorem t1 : GoodC C d1 c1 := fun I hI gs out h =>
  FnC.of_tree low mixed names (pl_ok I hI) (specs := []) (fuel := 100000) (c := code3) (pe := []) Tryz.func3 (by kernel_rfl) SpecsOk.nil (by kernel_rfl) h
theorem t6 : GoodC C d6 c6 := fun I hI gs out h =>
  FnC.of_tree low mixed names (pl_ok I hI) (specs := [(0, s11)]) (fuel := 100000) (c := code81) (pe := []) Tryz.func81 (by kernel_rfl) (SpecsOk.cons rfl (fun gs out h => hI 11 gs out h) SpecsOk.nil) (by kernel_rfl) h
theorem t10 : GoodC C d10 c10 := fun I hI gs out h =>
  LoopC.of_tree_at low mixed names (pl_ok I hI) (specs := []) (fuel := 100000) (sp := s10) (by kernel_rfl) rfl (ps := []) (b := b10) SpecsOk.nil (fun gs out h => hI 10 gs out h) (by kernel_rfl) h
theorem t12 : GoodC C d12 c12 := fun I hI gs out h =>
  FnC.of_tree low mixed names (pl_ok I hI) (specs := []) (fuel := 100000) (c := code116) (pe := []) Tryz.func116 (by kernel_rfl) SpecsOk.nil (by kernel_rfl) h
theorem t13 : GoodC C d13 c13 := fun I hI gs out h =>
  FnC.of_tree low mixed names (pl_ok I hI) (specs := [(0, s14), (1, s22)]) (fuel := 100000) (c := code17) (pe := []) Tryz.func17 (by kernel_rfl) (SpecsOk.cons rfl (fun gs out h => hI 14 gs out h) (SpecsOk.cons rfl (fun gs out h => hI 22 gs out h) SpecsOk.nil)) (by kernel_rfl) h
theorem t27 : GoodC C d27 c27 := fun I hI gs out h =>
  FnC.of_tree low mixed names (pl_ok I hI) (specs := []) (fuel := 100000) (c := code19) (pe := []) Tryz.func19 (by kernel_rfl) SpecsOk.nil (by kernel_rfl) h
theorem t28 : GoodC C d28 c28 := fun I hI gs out h =>
  FnC.of_tree low mixed names (pl_ok I hI) (specs := [(0, s29)]) (fuel := 100000) (c := code86) (pe := []) Tryz.func86 (by kernel_rfl) (SpecsOk.cons rfl (fun gs out h => hI 29 gs out h) SpecsOk.nil) (by kernel_rfl) h
theorem t32 : GoodC C d32 c32 := fun I hI gs out h =>
  LoopC.of_tree_at low mixed names (pl_ok I hI) (specs := []) (fuel := 100000) (sp := s32) (by kernel_rfl) rfl (ps := []) (b := b32) SpecsOk.nil (fun gs out h => hI 32 gs out h) (by kernel_rfl) h
theorem t35 : GoodC C d35 c35 := fun I hI gs out h =>
  FnC.of_tree low mixed names (pl_ok I hI) (specs := [(0, s36)]) (fuel := 100000) (c := code20) (pe := []) Tryz.func20 (by kernel_rfl) (SpecsOk.cons rfl (fun gs out h => hI 36 gs out h) SpecsOk.nil) (by kernel_rfl) h
end B
end Go.Proofs.YtamcdgfjjeldeaaGreatDoor
